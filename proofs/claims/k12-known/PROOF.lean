import PyProof.Rows.All
import Wide.All
import OpenK.AllK
import Wide.FinOn
import HandS.ForMost
import HandS.Evl
import HandS.Wide
import HandS.IsInst
import HandS.TupAny
import HandS.TupMul
import HandS.Exc
import HandS.TryOnly
import HandS.ExcOwn
import HandS.WordsExc
import HandS.Flow
import HandS.FStr
import HandS.Text
import HandS.OwnEq
import HandS.Conv
import HandS.Iter
import PyProof.Rows.SortShellAny
import PyProof.StrLawsChain
import HandS.ExcInit
import HandS.ExcField
import HandS.TryMany
import HandS.DictComp
import HandS.More
import HandS.SortInts
import PySem.Challenge.RW_wholecodes_k12_known_codes
set_option Elab.async false
set_option linter.all false
set_option maxRecDepth 100000
set_option autoImplicit false
set_option maxHeartbeats 4000000
set_option exponentiation.threshold 9000
/-! Dl: plain data behind values; frames of data; what a reading makes of them. -/
namespace Dl
open PySem L2 Evl

theorem sz_of {n : Nat} (h : n ≤ 1000000) : n ≤ sizeLine := Nat.le_trans h (by decide)
theorem sz_lt {n : Nat} (h : n < 1000000) : n < sizeLine := Nat.lt_of_lt_of_le h (by decide)
inductive D where
  | non | bl (b : Bool) | int (i : Int) | str (x : Str) | lst (xs : List D) | tup (xs : List D) | obj (C : Addr) (ns : List Str) (xs : List D) | ty (n : String) | cls (C : Addr)

mutual
inductive Rep (K : PySem.W.Frag) (H : Hp) : V → D → Prop where
  | non : Rep K H .non .non
  | bl (b : Bool) : Rep K H (.bl b) (.bl b)
  | int (i : Int) : Rep K H (.int i) (.int i)
  | str (x : Str) : Rep K H (.str x) (.str x)
  | lst {a : Addr} {xs : List V} {ds : List D} : H a = some (.lst xs) → Reps K H xs ds → Rep K H (.ref a) (.lst ds)
  | tup {a : Addr} {xs : List V} {ds : List D} : SqT K H a xs → Reps K H xs ds → Rep K H (.ref a) (.tup ds)
  | obj {a C dx : Addr} {fs : List (Str × V)} {ns : List Str} {ds : List D} : H a = some (.ins C dx fs) → fs.map (·.1) = ns → Reps K H (fs.map (·.2)) ds → Rep K H (.ref a) (.obj C ns ds)
  | ty (n : String) : Rep K H (.ty n) (.ty n)
  | cls (C : Addr) : Rep K H (.ref C) (.cls C)
inductive Reps (K : PySem.W.Frag) (H : Hp) : List V → List D → Prop where
  | nil : Reps K H [] []
  | cons {v : V} {d : D} {vs : List V} {ds : List D} : Rep K H v d → Reps K H vs ds → Reps K H (v :: vs) (d :: ds)
end

section
variable {K : PySem.W.Frag} {H H' G : Hp} {v : V} {d : D} {vs ws : List V} {ds es : List D}
theorem Rep.mono (e : Ex H H') (h : Rep K H v d) : Rep K H' v d :=
  Rep.rec (motive_1 := fun v d _ => Rep K H' v d) (motive_2 := fun vs ds _ => Reps K H' vs ds) .non (fun b => .bl b) (fun i => .int i) (fun x => .str x)
    (fun h _ r => .lst (e _ _ h) r) (fun h _ r => .tup (ex_t e h) r) (fun h n _ r => .obj (e _ _ h) n r) (fun n => .ty n) (fun C => .cls C) .nil (fun _ _ a b => .cons a b) h
theorem Reps.mono (e : Ex H H') (h : Reps K H vs ds) : Reps K H' vs ds := by
  induction vs generalizing ds with
  | nil => cases h; exact .nil
  | cons v vs ih => cases h with | cons a b => exact .cons (a.mono e) (ih b)
theorem Reps.len (h : Reps K H vs ds) : vs.length = ds.length := by
  induction vs generalizing ds with
  | nil => cases h; rfl
  | cons v vs ih => cases h with | cons a b => simp [ih b]
theorem Reps.get (h : Reps K H vs ds) {i : Nat} {v : V} (e : vs[i]? = some v) : ∃ d, ds[i]? = some d ∧ Rep K H v d := by
  induction vs generalizing ds i with
  | nil => simp at e
  | cons w vs ih => cases h with
    | cons a b => cases i with
      | zero => simp at e; subst e; exact ⟨_, rfl, a⟩
      | succ i => obtain ⟨d, h1, h2⟩ := ih b (i := i) (by simpa using e); exact ⟨d, by simpa using h1, h2⟩
theorem Reps.getD (h : Reps K H vs ds) {i : Nat} {d : D} (e : ds[i]? = some d) : ∃ v, vs[i]? = some v ∧ Rep K H v d := by
  induction vs generalizing ds i with
  | nil => cases h; simp at e
  | cons w vs ih => cases h with
    | cons a b => cases i with
      | zero => simp at e; subst e; exact ⟨_, rfl, a⟩
      | succ i => obtain ⟨v, h1, h2⟩ := ih b (i := i) (by simpa using e); exact ⟨v, by simpa using h1, h2⟩
theorem Reps.app (h : Reps K H vs ds) (h' : Reps K H ws es) : Reps K H (vs ++ ws) (ds ++ es) := by
  induction vs generalizing ds with
  | nil => cases h; exact h'
  | cons v vs ih => cases h with | cons a b => exact .cons a (ih b)
theorem Reps.drop (h : Reps K H vs ds) (n : Nat) : Reps K H (vs.drop n) (ds.drop n) := by
  induction vs generalizing ds n with
  | nil => cases h; simp; exact .nil
  | cons v vs ih => cases h with
    | cons a b => cases n with
      | zero => exact .cons a b
      | succ n => exact ih b n
theorem Reps.take (h : Reps K H vs ds) (n : Nat) : Reps K H (vs.take n) (ds.take n) := by
  induction vs generalizing ds n with
  | nil => cases h; simp; exact .nil
  | cons v vs ih => cases h with
    | cons a b => cases n with
      | zero => exact .nil
      | succ n => exact .cons a (ih b n)
theorem Reps.ints {ns : List Int} (h : Reps K H vs (ns.map D.int)) : vs = ns.map V.int := by
  induction vs generalizing ns with
  | nil => cases ns with | nil => rfl | cons n ns => cases h
  | cons v vs ih => cases ns with
    | nil => cases h
    | cons n ns => cases h with | cons a b => cases a; rw [ih b]; rfl
theorem Reps.of_ints (ns : List Int) : Reps K H (ns.map V.int) (ns.map D.int) := by
  induction ns with
  | nil => exact .nil
  | cons n ns ih => exact .cons (.int n) ih
theorem Reps.bls {ns : List Bool} (h : Reps K H vs (ns.map D.bl)) : vs = ns.map V.bl := by
  induction vs generalizing ns with
  | nil => cases ns with | nil => rfl | cons n ns => cases h
  | cons v vs ih => cases ns with
    | nil => cases h
    | cons n ns => cases h with | cons a b => cases a; rw [ih b]; rfl
theorem Reps.strs {ns : List Str} (h : Reps K H vs (ns.map D.str)) : vs = ns.map V.str := by
  induction vs generalizing ns with
  | nil => cases ns with | nil => rfl | cons n ns => cases h
  | cons v vs ih => cases ns with
    | nil => cases h
    | cons n ns => cases h with | cons a b => cases a; rw [ih b]; rfl
theorem Reps.of_strs (ns : List Str) : Reps K H (ns.map V.str) (ns.map D.str) := by
  induction ns with
  | nil => exact .nil
  | cons n ns ih => exact .cons (.str n) ih
end

/-- the law's draws stand at b -/
def DrawsOk (H : Hp) (b a : Addr) : Prop := ∃ (ns : List Int) (i j s : Int), H b = some (.lst [.ref a, .int i, .int j, .int s]) ∧ H a = some (.lst (ns.map V.int)) ∧ a ≠ b ∧ 0 ≤ i ∧ 0 ≤ j ∧ 0 ≤ s ∧ s < 2147483647

/-- b is not the draws' list; not the list that they read -/
def NotL (l : Option (Addr × Addr)) (b : Addr) : Prop := ∀ a, l ≠ some (b, a)
def NotI (l : Option (Addr × Addr)) (a : Addr) : Prop := ∀ b, l ≠ some (b, a)
structure Ext (l : Option (Addr × Addr)) (G H G1 H1 : Hp) : Prop where
  g : Ex G G1
  h : ∀ b o, NotL l b → H b = some o → H1 b = some o
  n : ∀ b, H b ≠ none → G b = none → G1 b = none
  t : ∀ b, H b ≠ none → H1 b ≠ none
  dr : ∀ b a, l = some (b, a) → DrawsOk H b a → DrawsOk H1 b a
section
variable {l : Option (Addr × Addr)} {G H G1 H1 G2 H2 : Hp} {p : Addr} {o : HO}
theorem Ext.refl : Ext l G H G H := ⟨Ex.refl _, fun _ _ _ e => e, fun _ _ e => e, fun _ e => e, fun _ _ _ e => e⟩
theorem Ext.trans (a : Ext l G H G1 H1) (b : Ext l G1 H1 G2 H2) : Ext l G H G2 H2 :=
  ⟨a.g.trans b.g, fun x o e q => b.h x o e (a.h x o e q), fun x e q => b.n x (a.t x e) (a.n x e q), fun x e => b.t x (a.t x e), fun x y e q => b.dr x y e (a.dr x y e q)⟩
theorem Ext.ex (a : Ext none G H G1 H1) : Ex H H1 := fun b o e => a.h b o (fun _ z => nomatch z) e
theorem DrawsOk.mono {b a : Addr} (e : Ex H H1) (h : DrawsOk H b a) : DrawsOk H1 b a := by
  obtain ⟨ns, i, j, s, h1, h2, r⟩ := h
  exact ⟨ns, i, j, s, e _ _ h1, e _ _ h2, r⟩
theorem Ext.all (a : Ext none G H G1 H1) : Ext l G H G1 H1 := ⟨a.g, fun b o _ e => a.ex b o e, a.n, a.t, fun b _ _ q => q.mono a.ex⟩
/-- a new thing, known from now on -/
theorem Ext.new (hp : H p = none) (hg : G p = none) : Ext none G H (upd G p o) (upd H p o) := by
  refine ⟨Ex.new hg, fun b u _ e => ?_, fun b e q => ?_, fun b e q => ?_, fun b _ z => nomatch z⟩
  · rw [upd_ne (ne_of_none e hp)]; exact e
  · rw [upd_ne (fun z => e (by rw [z]; exact hp))]; exact q
  · rw [upd_ne (fun z => e (by rw [z]; exact hp))] at q; exact e q
theorem Ext.hid (hp : H p = none) : Ext none G H G (upd H p o) := by
  refine ⟨Ex.refl _, fun b u _ e => ?_, fun b e q => q, fun b e q => ?_, fun b _ z => nomatch z⟩
  · rw [upd_ne (ne_of_none e hp)]; exact e
  · rw [upd_ne (fun z => e (by rw [z]; exact hp))] at q; exact e q
/-- a hidden thing changes -/
theorem Ext.mut (e : Ext l G H G1 H1) (hp : H p = none) : Ext l G H G1 (upd H1 p o) := by
  refine ⟨e.g, fun b u hb q => ?_, e.n, fun b q => ?_, fun b a hb q => ?_⟩
  · rw [upd_ne (ne_of_none q hp)]; exact e.h b u hb q
  · rw [upd_ne (fun z => q (by rw [z]; exact hp))]; exact e.t b q
  · obtain ⟨_, _, _, _, h1, h2, _⟩ := id q
    obtain ⟨ns, i, j, s, k1, k2, r⟩ := e.dr b a hb q
    exact ⟨ns, i, j, s, by rw [upd_ne (ne_of_none h1 hp)]; exact k1, by rw [upd_ne (ne_of_none h2 hp)]; exact k2, r⟩
theorem sub_none (s : Ex G H) (hp : H p = none) : G p = none := fresh_back s hp
theorem sub_upd (s : Ex G H) : Ex (upd G p o) (upd H p o) := fun b u e => by
  by_cases hb : b = p
  · subst hb; rw [upd_same] at e ⊢; exact e
  · rw [upd_ne hb] at e ⊢; exact s b u e
theorem sub_hid (s : Ex G H) (hp : G p = none) : Ex G (upd H p o) := fun b u e => by
  rw [upd_ne (ne_of_none e hp)]; exact s b u e
end

/-- K: the written part; l: the draws' address; X: where an exception goes; W: what stood at the entry; M: what of it may change -/
structure Ctx where
  K : PySem.W.Frag
  l : Option (Addr × Addr)
  X : XK
  W : Addr → Prop
  M : Addr → Prop
/-- what a statement may do -/
structure Exs (c : Ctx) (G H G1 H1 : Hp) : Prop where
  g : Ex G G1
  h : ∀ b o, c.W b → ¬ c.M b → NotL c.l b → H b = some o → H1 b = some o
  n : ∀ b, c.W b → H b ≠ none → G b = none → G1 b = none
  t : ∀ b, H b ≠ none → H1 b ≠ none
  dr : ∀ b a, c.l = some (b, a) → DrawsOk H b a → DrawsOk H1 b a
theorem Exs.refl {c : Ctx} {G H : Hp} : Exs c G H G H := ⟨Ex.refl _, fun _ _ _ _ _ e => e, fun _ _ _ e => e, fun _ e => e, fun _ _ _ e => e⟩
theorem Exs.trans {c : Ctx} {G H G1 H1 G2 H2 : Hp} (a : Exs c G H G1 H1) (b : Exs c G1 H1 G2 H2) : Exs c G H G2 H2 :=
  ⟨a.g.trans b.g, fun x o w m e q => b.h x o w m e (a.h x o w m e q), fun x w e q => b.n x w (a.t x e) (a.n x w e q), fun x e => b.t x (a.t x e), fun x y e q => b.dr x y e (a.dr x y e q)⟩
theorem Ext.s {c : Ctx} {G H G1 H1 : Hp} (a : Ext c.l G H G1 H1) : Exs c G H G1 H1 := ⟨a.g, fun b o _ _ e q => a.h b o e q, fun b _ e q => a.n b e q, a.t, a.dr⟩
inductive Sl where
  | no | v (d : D) | own (xs : List D) | drw | self (p dx C : Addr) (ns : List Str) (xs : List D)
  | rdr (w : Bool) (p q dx C : Addr) (d : D) (xs : List D)
abbrev Fm := List Sl
def isRdr : Sl → Bool
  | .rdr _ _ _ _ _ _ _ => true
  | _ => false
/-- an instance with the fields code, fed, fed a list of its own: both hidden -/
def RdH (K : PySem.W.Frag) (G H : Hp) (p q dx C : Addr) (d : D) (xs : List D) : Prop := ∃ u vs, G p = none ∧ G q = none ∧ H p = some (.ins C dx [("code", u), ("fed", .ref q)]) ∧ H q = some (.lst vs) ∧ Rep K G u d ∧ Reps K G vs xs
def SlOk (c : Ctx) (G H : Hp) (x : Option (Option V)) : Sl → Prop
  | .no => True
  | .v d => ∃ u, x = some (some u) ∧ Rep c.K G u d
  | .own xs => ∃ a vs, x = some (some (.ref a)) ∧ G a = none ∧ H a = some (.lst vs) ∧ Reps c.K G vs xs ∧ NotL c.l a ∧ ¬ c.W a ∧ NotI c.l a
  | .drw => ∃ b a, c.l = some (b, a) ∧ x = some (some (.ref b)) ∧ G b = none ∧ DrawsOk H b a
  | .self p dx C ns xs => ∃ fs, x = some (some (.ref p)) ∧ G p = none ∧ H p = some (.ins C dx fs) ∧ fs.map (·.1) = ns ∧ Reps c.K G (fs.map (·.2)) xs ∧ NotL c.l p ∧ c.M p
  | .rdr w p q dx C d xs => x = some (some (.ref p)) ∧ RdH c.K G H p q dx C d xs ∧ NotL c.l p ∧ NotL c.l q ∧ NotI c.l p ∧ NotI c.l q ∧ (w = true → (c.W p → c.M p) ∧ (c.W q → c.M q))
structure Fr (c : Ctx) (G H : Hp) (σ : L2.St) (ds : Fm) : Prop where
  len : σ.length = ds.length
  ok : ∀ (i : Nat) s, ds[i]? = some s → SlOk c G H σ[i]? s
  ap : ∀ (i j : Nat) a xs ys, i ≠ j → ds[i]? = some (.own xs) → ds[j]? = some (.own ys) → σ[i]? = some (some (.ref a)) → σ[j]? ≠ some (some (.ref a))
structure At (c : Ctx) (G H : Hp) (σ : L2.St) (ds : Fm) : Prop where
  sub : Ex G H
  fr : Fr c G H σ ds
  lk : ∀ b a, c.l = some (b, a) → H b ≠ none ∧ G b = none ∧ H a ≠ none
  tr : ∀ b, c.W b → H b ≠ none
section
variable {c : Ctx} {G H G1 H1 : Hp} {σ : L2.St} {ds : Fm}
theorem SlOk.go {x : Option (Option V)} {s : Sl} (e : Ext c.l G H G1 H1) (h : SlOk c G H x s) : SlOk c G1 H1 x s := by
  cases s with
  | no => trivial
  | v d => obtain ⟨u, h1, h2⟩ := h; exact ⟨u, h1, h2.mono e.g⟩
  | own xs =>
    obtain ⟨a, vs, h1, h2, h3, h4, h5, h6⟩ := h
    exact ⟨a, vs, h1, e.n a (by rw [h3]; simp) h2, e.h a _ h5 h3, h4.mono e.g, h5, h6⟩
  | self p dx C ns xs =>
    obtain ⟨fs, h1, h2, h3, h4, h5, h6, h7⟩ := h
    exact ⟨fs, h1, e.n p (by rw [h3]; simp) h2, e.h p _ h6 h3, h4, h5.mono e.g, h6, h7⟩
  | rdr w p q dx C d xs =>
    obtain ⟨h1, ⟨u, vs, k1, k2, k3, k4, k5, k6⟩, h3, h4, h5⟩ := h
    exact ⟨h1, ⟨u, vs, e.n p (by rw [k3]; simp) k1, e.n q (by rw [k4]; simp) k2, e.h p _ h3 k3, e.h q _ h4 k4, k5.mono e.g, k6.mono e.g⟩, h3, h4, h5⟩
  | drw =>
    obtain ⟨b, a, h1, h2, h3, h4⟩ := h
    refine ⟨b, a, h1, h2, e.n b ?_ h3, e.dr b a h1 h4⟩
    obtain ⟨_, _, _, _, h, _⟩ := h4
    rw [h]; simp
theorem Fr.go (f : Fr c G H σ ds) (e : Ext c.l G H G1 H1) : Fr c G1 H1 σ ds := ⟨f.len, fun i s h => (f.ok i s h).go e, f.ap⟩
theorem At.go (a : At c G H σ ds) (e : Ext c.l G H G1 H1) (s : Ex G1 H1) : At c G1 H1 σ ds := ⟨s, a.fr.go e, fun b y hb => ⟨e.t b (a.lk b y hb).1, e.n b (a.lk b y hb).1 (a.lk b y hb).2.1, e.t y (a.lk b y hb).2.2⟩, fun b hb => e.t b (a.tr b hb)⟩
theorem Fr.set {i : Nat} {u : V} {d : D} (f : Fr c G H σ ds) (r : Rep c.K G u d) (hi : i < ds.length) : Fr c G H (σ.set i (some u)) (ds.set i (.v d)) := by
  refine ⟨by simp [f.len], fun j s h => ?_, fun j k a xs ys hjk hj hk e1 e2 => ?_⟩
  · by_cases hj : i = j
    · subst hj
      rw [List.getElem?_set_self hi] at h
      cases h
      rw [List.getElem?_set_self (by rw [f.len]; exact hi)]
      exact ⟨u, rfl, r⟩
    · rw [List.getElem?_set_ne hj] at h ⊢
      exact f.ok j s h
  · have nj : i ≠ j := fun z => by subst z; rw [List.getElem?_set_self hi] at hj; cases hj
    have nk : i ≠ k := fun z => by subst z; rw [List.getElem?_set_self hi] at hk; cases hk
    rw [List.getElem?_set_ne nj] at hj e1
    rw [List.getElem?_set_ne nk] at hk e2
    exact f.ap j k a xs ys hjk hj hk e1 e2
theorem At.set {i : Nat} {u : V} {d : D} (a : At c G H σ ds) (r : Rep c.K G u d) (hi : i < ds.length) : At c G H (σ.set i (some u)) (ds.set i (.v d)) := ⟨a.sub, a.fr.set r hi, a.lk, a.tr⟩
theorem Fr.no {i : Nat} (f : Fr c G H σ ds) (x : Option V) : Fr c G H (σ.set i x) (ds.set i .no) := by
  refine ⟨by simp [f.len], fun j s h => ?_, fun j k a xs ys hjk hj hk e1 e2 => ?_⟩
  · by_cases hj : i = j
    · subst hj
      by_cases hi : i < ds.length
      · rw [List.getElem?_set_self hi] at h
        cases h; trivial
      · rw [List.getElem?_eq_none (by simpa using hi)] at h; cases h
    · rw [List.getElem?_set_ne hj] at h ⊢
      exact f.ok j s h
  · have nj : i ≠ j := fun z => by
      subst z
      by_cases hi : i < ds.length
      · rw [List.getElem?_set_self hi] at hj; cases hj
      · rw [List.getElem?_eq_none (by simpa using hi)] at hj; cases hj
    have nk : i ≠ k := fun z => by
      subst z
      by_cases hi : i < ds.length
      · rw [List.getElem?_set_self hi] at hk; cases hk
      · rw [List.getElem?_eq_none (by simpa using hi)] at hk; cases hk
    rw [List.getElem?_set_ne nj] at hj e1
    rw [List.getElem?_set_ne nk] at hk e2
    exact f.ap j k a xs ys hjk hj hk e1 e2
def wipeD (ds : Fm) : List Nat → Fm
  | [] => ds
  | v :: vs => (wipeD ds vs).set v .no
theorem Fr.wipe (f : Fr c G H σ ds) : ∀ vs : List Nat, Fr c G H (wipe σ vs) (wipeD ds vs)
  | [] => f
  | v :: vs => by
    unfold L2.wipe wipeD
    exact (Fr.wipe f vs).no none
theorem At.wipe (a : At c G H σ ds) (vs : List Nat) : At c G H (wipe σ vs) (wipeD ds vs) := ⟨a.sub, a.fr.wipe vs, a.lk, a.tr⟩
theorem wipe_get (σ : L2.St) (i : Nat) : ∀ vs : List Nat, (wipe σ vs)[i]? = if i ∈ vs ∧ i < σ.length then some none else σ[i]?
  | [] => by simp [L2.wipe]
  | v :: vs => by
    unfold L2.wipe
    have ih := wipe_get σ i vs
    by_cases h : v = i
    · subst h
      by_cases hl : v < σ.length
      · rw [List.getElem?_set_self (by rw [wipe_length]; exact hl), if_pos ⟨by simp, hl⟩]
      · rw [List.getElem?_eq_none (by rw [List.length_set, wipe_length]; omega), if_neg (fun z => hl z.2), List.getElem?_eq_none (by omega)]
    · rw [List.getElem?_set_ne h, ih]
      have e : (i ∈ v :: vs) ↔ i ∈ vs := by simp [Ne.symm h]
      simp only [e]
theorem wipe_same {τ : L2.St} {vs : List Nat} (hl : τ.length = σ.length) (h : ∀ i, i ∉ vs → τ[i]? = (wipe σ vs)[i]?) : wipe τ vs = wipe σ vs := by
  apply List.ext_getElem?
  intro i
  rw [wipe_get, wipe_get]
  by_cases hi : i ∈ vs
  · by_cases hz : i < σ.length
    · rw [if_pos ⟨hi, by omega⟩, if_pos ⟨hi, hz⟩]
    · rw [if_neg (by omega), if_neg (by omega), List.getElem?_eq_none (by omega), List.getElem?_eq_none (by omega)]
  · rw [if_neg (fun z => hi z.1), if_neg (fun z => hi z.1), h i hi, wipe_get, if_neg (fun z => hi z.1)]
end

/-! ### what readings make of data -/
def Ee (c : Ctx) (te : TE) (ds : Fm) (d : D) : Prop := ∀ G H σ, At c G H σ ds → ∀ Q : VK, (∀ v G1 H1, Ext c.l G H G1 H1 → Ex G1 H1 → Rep c.K G1 v d → Q v H1) → te σ H Q
def Et (c : Ctx) (tt : TT) (ds : Fm) (b : Bool) : Prop := ∀ G H σ, At c G H σ ds → ∀ Q : Bool → Hp → Prop, (∀ G1 H1, Ext c.l G H G1 H1 → Ex G1 H1 → Q b H1) → tt σ H Q
def Ea (c : Ctx) (ta : TA) (ds : Fm) (xs : List D) : Prop := ∀ G H σ, At c G H σ ds → ∀ Q : List V → Hp → Prop, (∀ vs G1 H1, Ext c.l G H G1 H1 → Ex G1 H1 → Reps c.K G1 vs xs → Q vs H1) → ta σ H Q
def Eo (c : Ctx) (to : TO) (ds : Fm) (o : Option Int) : Prop := ∀ G H σ, At c G H σ ds → ∀ Q : Option Int → Hp → Prop, (∀ G1 H1, Ext c.l G H G1 H1 → Ex G1 H1 → Q o H1) → to σ H Q
/-- what follows a value-level rule -/
def Then (K : PySem.W.Frag) (G H : Hp) (z : D) (Q : VK) : Prop := ∀ u G1 H1, Ext none G H G1 H1 → Ex G1 H1 → Rep K G1 u z → Q u H1
def Rb (K : PySem.W.Frag) (r : R2) (x y z : D) : Prop := ∀ G H v w, Ex G H → Rep K G v x → Rep K G w y → ∀ Q : VK, Then K G H z Q → r v w H Q
def Ru (K : PySem.W.Frag) (r : V → Hp → VK → Prop) (x z : D) : Prop := ∀ G H v, Ex G H → Rep K G v x → ∀ Q : VK, Then K G H z Q → r v H Q
def Rc (K : PySem.W.Frag) (r : List V → Hp → VK → Prop) (xs : List D) (z : D) : Prop := ∀ G H vs, Ex G H → Reps K G vs xs → ∀ Q : VK, Then K G H z Q → r vs H Q
def Rm (K : PySem.W.Frag) (r : V → List V → Hp → VK → Prop) (x : D) (xs : List D) (z : D) : Prop := ∀ G H v vs, Ex G H → Rep K G v x → Reps K G vs xs → ∀ Q : VK, Then K G H z Q → r v vs H Q
theorem Then.same {K : PySem.W.Frag} {G H : Hp} {z : D} {Q : VK} (t : Then K G H z Q) (s : Ex G H) {u : V} (r : Rep K G u z) : Q u H := t u G H Ext.refl s r
theorem Then.tup {K : PySem.W.Frag} {G H : Hp} {zs : List D} {Q : VK} (t : Then K G H (.tup zs) Q) (s : Ex G H) {us : List V} (r : Reps K G us zs) : ∀ p, H p = none → Q (.ref p) (upd H p (.tup us)) := fun p hp =>
  t _ (upd G p (.tup us)) _ (Ext.new hp (sub_none s hp)) (sub_upd s) (.tup (SqT.of upd_same) (r.mono (Ex.new (sub_none s hp))))
theorem Then.lst {K : PySem.W.Frag} {G H : Hp} {zs : List D} {Q : VK} (t : Then K G H (.lst zs) Q) (s : Ex G H) {us : List V} (r : Reps K G us zs) : ∀ p, H p = none → Q (.ref p) (upd H p (.lst us)) := fun p hp =>
  t _ (upd G p (.lst us)) _ (Ext.new hp (sub_none s hp)) (sub_upd s) (.lst upd_same (r.mono (Ex.new (sub_none s hp))))

section
variable {c : Ctx} {ds : Fm} {ta tb te : TE} {x y z d : D} {xs : List D} {t u : TT}
theorem ee_var {i : Nat} (h : ds[i]? = some (.v d)) : Ee c (tVar i) ds d := fun G H σ a Q q => by
  obtain ⟨v, h1, h2⟩ := a.fr.ok i _ h
  exact ⟨v, h1, q v G H Ext.refl a.sub h2⟩
theorem ee_int {i : Int} : Ee c (tC (.int i)) ds (.int i) := fun G H σ a Q q => q _ G H Ext.refl a.sub (.int i)
theorem ee_str {i : Str} : Ee c (tC (.str i)) ds (.str i) := fun G H σ a Q q => q _ G H Ext.refl a.sub (.str i)
theorem ee_bl {i : Bool} : Ee c (tC (.bl i)) ds (.bl i) := fun G H σ a Q q => q _ G H Ext.refl a.sub (.bl i)
theorem ee_non : Ee c (tC .non) ds .non := fun G H σ a Q q => q _ G H Ext.refl a.sub .non
theorem ee_ty {n : String} : Ee c (tC (.ty n)) ds (.ty n) := fun G H σ a Q q => q _ G H Ext.refl a.sub (.ty n)
theorem ee_cls {C : Addr} : Ee c (tC (.ref C)) ds (.cls C) := fun G H σ a Q q => q _ G H Ext.refl a.sub (.cls C)
/-- a tuple of the module's own -/
theorem ee_kt {a : Addr} (h : ∀ G, Rep c.K G (.ref a) d) : Ee c (tC (.ref a)) ds d := fun G H σ a Q q => q _ G H Ext.refl a.sub (h G)
theorem ee_op {r : R2} (ha : Ee c ta ds x) (hb : Ee c tb ds y) (hr : Rb c.K r x y z) : Ee c (tOp r ta tb) ds z := fun G H σ a Q q =>
  ha G H σ a _ fun v G1 H1 e1 s1 r1 => hb G1 H1 σ (a.go e1 s1) _ fun w G2 H2 e2 s2 r2 => hr G2 H2 v w s2 (r1.mono e2.g) r2 Q fun u G3 H3 e3 s3 r3 => q u G3 H3 ((e1.trans e2).trans e3.all) s3 r3
theorem ee_un {r : V → Hp → VK → Prop} (ha : Ee c ta ds x) (hr : Ru c.K r x z) : Ee c (tUn r ta) ds z := fun G H σ a Q q =>
  ha G H σ a _ fun v G1 H1 e1 s1 r1 => hr G1 H1 v s1 r1 Q fun u G3 H3 e3 s3 r3 => q u G3 H3 (e1.trans e3.all) s3 r3
theorem ea_nil : Ea c tNil ds [] := fun G H σ a Q q => q [] G H Ext.refl a.sub .nil
theorem ea_cons {tr : TA} (ha : Ee c ta ds x) (hr : Ea c tr ds xs) : Ea c (tCons ta tr) ds (x :: xs) := fun G H σ a Q q =>
  ha G H σ a _ fun v G1 H1 e1 s1 r1 => hr G1 H1 σ (a.go e1 s1) _ fun vs G2 H2 e2 s2 r2 => q _ G2 H2 (e1.trans e2) s2 (.cons (r1.mono e2.g) r2)
theorem ee_cb {r : List V → Hp → VK → Prop} {tr : TA} (ha : Ea c tr ds xs) (hr : Rc c.K r xs z) : Ee c (tCB r tr) ds z := fun G H σ a Q q =>
  ha G H σ a _ fun v G1 H1 e1 s1 r1 => hr G1 H1 v s1 r1 Q fun u G3 H3 e3 s3 r3 => q u G3 H3 (e1.trans e3.all) s3 r3
theorem ee_tup {tr : TA} (ha : Ea c tr ds xs) (hl : xs.length ≤ 1000000) : Ee c (tTup tr) ds (.tup xs) := fun G H σ a Q q =>
  ha G H σ a _ fun v G1 H1 e1 s1 r1 => ⟨by rw [r1.len]; exact sz_of hl, Then.tup (fun u G3 H3 e3 s3 r3 => q u G3 H3 (e1.trans e3.all) s3 r3) s1 r1⟩
theorem ee_lst {tr : TA} (ha : Ea c tr ds xs) (hl : xs.length ≤ 1000000) : Ee c (tLst tr) ds (.lst xs) := fun G H σ a Q q =>
  ha G H σ a _ fun v G1 H1 e1 s1 r1 => ⟨by rw [r1.len]; exact sz_of hl, Then.lst (fun u G3 H3 e3 s3 r3 => q u G3 H3 (e1.trans e3.all) s3 r3) s1 r1⟩
theorem ee_bm0 {T : String} {r : V → List V → Hp → VK → Prop} (ha : Ee c te ds x) (hty : ∀ G H v, Ex G H → Rep c.K G v x → tyV c.K T v H) (hr : Rm c.K r x [] z) : Ee c (tBM0 c.K T r te) ds z := fun G H σ a Q q =>
  ha G H σ a _ fun v G1 H1 e1 s1 r1 => ⟨hty G1 H1 v s1 r1, hr G1 H1 v [] s1 r1 .nil Q fun u G3 H3 e3 s3 r3 => q u G3 H3 (e1.trans e3.all) s3 r3⟩
theorem ee_bm {T : String} {r : V → List V → Hp → VK → Prop} {tr : TA} (ha : Ee c te ds x) (hb : Ea c tr ds xs) (hty : ∀ G H v, Ex G H → Rep c.K G v x → tyV c.K T v H) (hr : Rm c.K r x xs z) : Ee c (tBM c.K T r te tr) ds z := fun G H σ a Q q =>
  ha G H σ a _ fun v G1 H1 e1 s1 r1 => ⟨hty G1 H1 v s1 r1, hb G1 H1 σ (a.go e1 s1) _ fun vs G2 H2 e2 s2 r2 => hr G2 H2 v vs s2 (r1.mono e2.g) r2 Q fun u G3 H3 e3 s3 r3 => q u G3 H3 ((e1.trans e2).trans e3.all) s3 r3⟩
theorem ee_m1 {r : V → List V → Hp → VK → Prop} {s : Str} (ha : Ee c te ds (.str s)) (hb : Ee c tb ds y) (hr : Rm c.K r (.str s) [y] z) : Ee c (tM1 r te tb) ds z := fun G H σ a Q q =>
  ha G H σ a _ fun v G1 H1 e1 s1 r1 => ⟨by cases r1; exact ⟨_, rfl⟩, hb G1 H1 σ (a.go e1 s1) _ fun w G2 H2 e2 s2 r2 => hr G2 H2 v [w] s2 (r1.mono e2.g) (.cons r2 .nil) Q fun u G3 H3 e3 s3 r3 => q u G3 H3 ((e1.trans e2).trans e3.all) s3 r3⟩
theorem ee_if {b : Bool} (h : Et c t ds b) (h1 : b = true → Ee c ta ds d) (h2 : b = false → Ee c tb ds d) : Ee c (tIf t ta tb) ds d := fun G H σ a Q q => h G H σ a _ fun G1 H1 e1 s1 => by
  cases b with
  | true => exact h1 rfl G1 H1 σ (a.go e1 s1) Q fun v G2 H2 e2 => q v G2 H2 (e1.trans e2)
  | false => exact h2 rfl G1 H1 σ (a.go e1 s1) Q fun v G2 H2 e2 => q v G2 H2 (e1.trans e2)
theorem ee_andV {a b : Bool} (h1 : Ee c ta ds (.bl a)) (h2 : a = true → Ee c tb ds (.bl b)) : Ee c (tAndV ta tb) ds (.bl (a && b)) := fun G H σ at' Q q => h1 G H σ at' _ fun v G1 H1 e1 s1 r1 => by
  cases r1
  refine ⟨a, rfl, ?_⟩
  cases a with
  | true => exact h2 rfl G1 H1 σ (at'.go e1 s1) Q fun v G2 H2 e2 => q v G2 H2 (e1.trans e2)
  | false => exact q _ G1 H1 e1 s1 (.bl false)
theorem ee_orV {a b : Bool} (h1 : Ee c ta ds (.bl a)) (h2 : a = false → Ee c tb ds (.bl b)) : Ee c (tOrV ta tb) ds (.bl (a || b)) := fun G H σ at' Q q => h1 G H σ at' _ fun v G1 H1 e1 s1 r1 => by
  cases r1
  refine ⟨a, rfl, ?_⟩
  cases a with
  | true => exact q _ G1 H1 e1 s1 (.bl true)
  | false => exact h2 rfl G1 H1 σ (at'.go e1 s1) Q fun v G2 H2 e2 => q v G2 H2 (e1.trans e2)
theorem ee_notV {a : Bool} (h1 : Ee c ta ds (.bl a)) : Ee c (tNotV ta) ds (.bl (!a)) := fun G H σ at' Q q => h1 G H σ at' _ fun v G1 H1 e1 s1 r1 => by
  cases r1
  exact ⟨a, rfl, q _ G1 H1 e1 s1 (.bl _)⟩
theorem et_test {b : Bool} (h : Ee c te ds (.bl b)) : Et c (tTest te) ds b := fun G H σ a Q q => h G H σ a _ fun v G1 H1 e1 s1 r1 => by
  cases r1
  exact ⟨b, rfl, q G1 H1 e1 s1⟩
theorem et_B {b : Bool} (h : Ee c te ds (.bl b)) : Et c (tB te) ds b := fun G H σ a Q q => h G H σ a _ fun v G1 H1 e1 s1 r1 => by
  cases r1
  exact ⟨b, rfl, q G1 H1 e1 s1⟩
theorem et_and {a b : Bool} (h1 : Et c t ds a) (h2 : a = true → Et c u ds b) : Et c (tAnd t u) ds (a && b) := fun G H σ at' Q q => h1 G H σ at' _ fun G1 H1 e1 s1 => by
  cases a with
  | true => exact h2 rfl G1 H1 σ (at'.go e1 s1) Q fun G2 H2 e2 => q G2 H2 (e1.trans e2)
  | false => exact q G1 H1 e1 s1
theorem et_or {a b : Bool} (h1 : Et c t ds a) (h2 : a = false → Et c u ds b) : Et c (tOr t u) ds (a || b) := fun G H σ at' Q q => h1 G H σ at' _ fun G1 H1 e1 s1 => by
  cases a with
  | true => exact q G1 H1 e1 s1
  | false => exact h2 rfl G1 H1 σ (at'.go e1 s1) Q fun G2 H2 e2 => q G2 H2 (e1.trans e2)
theorem et_not {a : Bool} (h1 : Et c t ds a) : Et c (tNot t) ds (!a) := fun G H σ at' Q q => h1 G H σ at' _ fun G1 H1 e1 s1 => q G1 H1 e1 s1
theorem et_yes : Et c tYes ds true := fun G H σ a Q q => q G H Ext.refl a.sub
/-- the truth of data -/
def truD : D → Bool
  | .non => false
  | .bl b => b
  | .int i => i != 0
  | .str y => ((y.length : Int) != 0)
  | .lst xs => !xs.isEmpty
  | .tup xs => !xs.isEmpty
  | .obj _ _ _ => true
  | .ty _ => true
  | .cls _ => true
def truOk : D → Prop
  | .str y => y.length ≤ 1000000
  | .obj _ _ _ => False
  | .ty _ => False
  | .cls _ => False
  | _ => True
theorem empty_reps {K : PySem.W.Frag} {H : Hp} {vs : List V} {ds : List D} (r : Reps K H vs ds) : vs.isEmpty = ds.isEmpty := by cases r <;> rfl
theorem tru_of {K : PySem.W.Frag} {G H : Hp} {v : V} (s : Ex G H) (r : Rep K G v x) (h : truOk x) : TruV K v H (truD x) := by
  cases r with
  | non => rfl
  | bl b => rfl
  | int i => rfl
  | str y => exact ⟨sz_of h, rfl⟩
  | lst e q => exact .inl ⟨_, SqL.of (s _ _ e), by rw [empty_reps q]; rfl⟩
  | tup e q => exact .inr (.inl ⟨_, ex_t s e, by rw [empty_reps q]; rfl⟩)
  | obj _ _ _ => exact h.elim
  | ty _ => exact h.elim
  | cls _ => exact h.elim
theorem et_tru (h : Ee c te ds x) (hx : truOk x) : Et c (fun σ H Q => te σ H fun x H' => ∃ k, TruV c.K x H' k ∧ Q k H') ds (truD x) := fun G H σ a Q q => h G H σ a _ fun v G1 H1 e1 s1 r1 =>
  ⟨_, tru_of s1 r1 hx, q G1 H1 e1 s1⟩
theorem ee_is {x y : D} (h : Ee c te ds x) (e : x = y) : Ee c te ds y := e ▸ h
theorem et_is {a b : Bool} (h : Et c t ds a) (e : a = b) : Et c t ds b := e ▸ h
theorem ea_is {tr : TA} {xs ys : List D} (h : Ea c tr ds xs) (e : xs = ys) : Ea c tr ds ys := e ▸ h
theorem eo_none : Eo c tNoPart ds none := fun G H σ a Q q => q G H Ext.refl a.sub
theorem eo_some {i : Int} (h : Ee c te ds (.int i)) : Eo c (tPart te) ds (some i) := fun G H σ a Q q => h G H σ a _ fun v G1 H1 e1 s1 r1 => by
  cases r1
  exact ⟨i, rfl, q G1 H1 e1 s1⟩
def Rs (K : PySem.W.Frag) (r : V → Option Int → Option Int → Hp → VK → Prop) (x : D) (lo hi : Option Int) (z : D) : Prop := ∀ G H v, Ex G H → Rep K G v x → ∀ Q : VK, Then K G H z Q → r v lo hi H Q
theorem ee_sl {r : V → Option Int → Option Int → Hp → VK → Prop} {tl th : TO} {lo hi : Option Int} (ha : Ee c te ds x) (h1 : Eo c tl ds lo) (h2 : Eo c th ds hi) (hr : Rs c.K r x lo hi z) : Ee c (tSl r te tl th) ds z := fun G H σ a Q q =>
  ha G H σ a _ fun v G1 H1 e1 s1 r1 => h1 G1 H1 σ (a.go e1 s1) _ fun G2 H2 e2 s2 => h2 G2 H2 σ (a.go (e1.trans e2) s2) _ fun G3 H3 e3 s3 => hr G3 H3 v s3 (r1.mono (e2.trans e3).g) Q fun u G4 H4 e4 s4 r4 => q u G4 H4 (((e1.trans e2).trans e3).trans e4.all) s4 r4
/-- x < y < z -/
theorem et_chain {r r' : R2} {tc : TE} {w : D} {a b : Bool} (h1 : Ee c ta ds x) (h2 : Ee c tb ds y) (hr : Rb c.K r x y (.bl a)) (h3 : a = true → Ee c tc ds w) (hr' : a = true → Rb c.K r' y w (.bl b)) : Ee c (tChain r r' ta tb tc) ds (.bl (a && b)) := fun G H σ at' Q q =>
  h1 G H σ at' _ fun v G1 H1 e1 s1 r1 => h2 G1 H1 σ (at'.go e1 s1) _ fun w G2 H2 e2 s2 r2 => hr G2 H2 v w s2 (r1.mono e2.g) r2 _ fun u G3 H3 e3 s3 r3 => by
    cases r3
    have e03 : Ext c.l G H G3 H3 := (e1.trans e2).trans e3.all
    cases a with
    | true =>
      exact ⟨true, rfl, h3 rfl G3 H3 σ (at'.go e03 s3) _ fun z G4 H4 e4 s4 r4 => hr' rfl G4 H4 w z s4 (r2.mono (e3.g.trans e4.g)) r4 _ fun u G5 H5 e5 s5 r5 => q u G5 H5 ((e03.trans e4).trans e5.all) s5 r5⟩
    | false => exact ⟨false, rfl, q _ G3 H3 e03 s3 (.bl false)⟩
end
end Dl

/-! Ds: statements, loops, comprehensions over plain data. -/
namespace Dl
open PySem L2 Evl

/-- what is wanted behind a statement, by data -/
structure DE where
  nx : Fm → Prop
  rt : D → Prop
  bk : Fm → Prop := fun _ => False
  ct : Fm → Prop := fun _ => False
  er : Value → Option Int → Prop := fun _ _ => False
  rf : D → Fm → Prop := fun _ _ => False
  ef : Value → Fm → Prop := fun _ _ => False
/-- an exception leaves: its class, its line -/
def Flies (X : XK) (C : Value) (o : Option Int) (H : Hp) : Prop := match o with
  | none => X C none H
  | some i => ∀ dd, H dd = none → X C (some dd) (upd H dd (.xd [("line", .int i)]))
structure Le (c : Ctx) (G H : Hp) (n : DE) (E : Ends) : Prop where
  nx : ∀ G' H' σ ds, Exs c G H G' H' → At c G' H' σ ds → n.nx ds → E.nx σ H'
  rt : ∀ G' H' v d, Exs c G H G' H' → Ex G' H' → Rep c.K G' v d → n.rt d → E.rt v H'
  bk : ∀ G' H' σ ds, Exs c G H G' H' → At c G' H' σ ds → n.bk ds → E.bk σ H'
  ct : ∀ G' H' σ ds, Exs c G H G' H' → At c G' H' σ ds → n.ct ds → E.ct σ H'
  er : ∀ G' H' C o, Exs c G H G' H' → Ex G' H' → n.er C o → Flies c.X C o H'
  rf : ∀ G' H' σ ds v d, Exs c G H G' H' → At c G' H' σ ds → Rep c.K G' v d → n.rf d ds → E.rt v H'
  ef : ∀ G' H' σ ds C, Exs c G H G' H' → At c G' H' σ ds → n.ef C ds → c.X C none H'
def St (c : Ctx) (t : TS) (n : DE) (ds : Fm) : Prop := ∀ G H σ, At c G H σ ds → ∀ E : Ends, Le c G H n E → t E σ H
theorem Le.go {c : Ctx} {G H G1 H1 : Hp} {n : DE} {E : Ends} (l : Le c G H n E) (e : Exs c G H G1 H1) : Le c G1 H1 n E :=
  ⟨fun G' H' σ ds x => l.nx G' H' σ ds (e.trans x), fun G' H' v d x => l.rt G' H' v d (e.trans x), fun G' H' σ ds x => l.bk G' H' σ ds (e.trans x), fun G' H' σ ds x => l.ct G' H' σ ds (e.trans x), fun G' H' C o x => l.er G' H' C o (e.trans x), fun G' H' σ ds v d x => l.rf G' H' σ ds v d (e.trans x), fun G' H' σ ds C x => l.ef G' H' σ ds C (e.trans x)⟩
/-- a target -/
def Eg (c : Ctx) (g : TG) (d : D) (ds ds' : Fm) (js : List Nat) : Prop := ∀ G H σ v, At c G H σ ds → Rep c.K G v d → ∀ Q : L2.St → Hp → Prop,
  (∀ σ', At c G H σ' ds' → σ'.length = σ.length → (∀ i, i ∉ js → σ'[i]? = σ[i]?) → Q σ' H) → g v σ H Q
def Egs (c : Ctx) (g : TGs) (xs : List D) (ds ds' : Fm) (js : List Nat) : Prop := ∀ G H σ vs, At c G H σ ds → Reps c.K G vs xs → ∀ Q : L2.St → Hp → Prop,
  (∀ σ', At c G H σ' ds' → σ'.length = σ.length → (∀ i, i ∉ js → σ'[i]? = σ[i]?) → Q σ' H) → g vs σ H Q
section
variable {c : Ctx} {ds ds' ds2 : Fm} {ta tb te : TE} {x y z d : D} {xs : List D} {tc u : TT} {n : DE} {t1 t2 t3 : TS} {g : TG}
theorem eg_name {i : Nat} (hi : i < ds.length) : Eg c (gName i) d ds (ds.set i (.v d)) [i] := fun G H σ v a r Q q =>
  q _ (a.set r hi) (by simp) fun j hj => List.getElem?_set_ne (fun e => hj (by simp [e]))
theorem egs_nil : Egs c gNil [] ds ds [] := fun G H σ v a r Q q => by
  cases r
  exact ⟨rfl, q σ a rfl fun _ _ => rfl⟩
theorem egs_cons {gs : TGs} {js ks : List Nat} (h1 : Eg c g d ds ds' js) (h2 : Egs c gs xs ds' ds2 ks) : Egs c (gCons g gs) (d :: xs) ds ds2 (js ++ ks) := fun G H σ v a r Q q => by
  cases r with
  | cons r1 r2 =>
    refine ⟨_, _, rfl, h1 G H σ _ a r1 _ fun σ1 a1 l1 k1 => h2 G H σ1 _ a1 r2 Q fun σ2 a2 l2 k2 => q σ2 a2 (l2.trans l1) fun i hi => ?_⟩
    rw [List.mem_append, not_or] at hi
    rw [k2 i hi.2, k1 i hi.1]
theorem eg_tup {m : Nat} {gs : TGs} {js : List Nat} (hl : xs.length = m) (h : Egs c gs xs ds ds' js) : Eg c (gTup c.K m gs) (.tup xs) ds ds' js := fun G H σ v a r Q q => by
  cases r with
  | tup s r => exact ⟨_, _, rfl, ex_t a.sub s, by rw [r.len, hl], h G H σ _ a r Q q⟩
/-! ### blocks -/
theorem st_next (h : n.nx ds) : St c tNext n ds := fun G H σ a E l => l.nx G H σ ds Exs.refl a h
theorem st_seq (h : St c t1 { n with nx := fun ds' => St c t2 n ds' } ds) : St c (tSeq t1 t2) n ds := fun G H σ a E l =>
  h G H σ a { E with nx := t2 E } ⟨fun G' H' σ ds x a h => h G' H' σ a E (l.go x), l.rt, l.bk, l.ct, l.er, l.rf, l.ef⟩
theorem st_imp {n' : DE} (h : St c t1 n ds) (h1 : ∀ ds, n.nx ds → n'.nx ds) (h2 : ∀ d, n.rt d → n'.rt d) (h3 : ∀ ds, n.bk ds → n'.bk ds) (h4 : ∀ ds, n.ct ds → n'.ct ds) (h5 : ∀ C o, n.er C o → n'.er C o) (h6 : n'.rf = n.rf := by rfl) (h7 : n'.ef = n.ef := by rfl) : St c t1 n' ds := fun G H σ a E l =>
  h G H σ a E ⟨fun G H σ ds x a z => l.nx G H σ ds x a (h1 ds z), fun G H v d e s r z => l.rt G H v d e s r (h2 d z), fun G H σ ds x a z => l.bk G H σ ds x a (h3 ds z), fun G H σ ds x a z => l.ct G H σ ds x a (h4 ds z), fun G H C o x s z => l.er G H C o x s (h5 C o z), fun G H σ ds v d x a r z => l.rf G H σ ds v d x a r (by rw [h6]; exact z), fun G H σ ds C x a z => l.ef G H σ ds C x a (by rw [h7]; exact z)⟩
theorem st_brk (h : n.bk ds) : St c tBreak n ds := fun G H σ a E l => l.bk G H σ ds Exs.refl a h
theorem st_cont (h : n.ct ds) : St c tCont n ds := fun G H σ a E l => l.ct G H σ ds Exs.refl a h
theorem st_ret (h : Ee c te ds d) (k : n.rt d) : St c (tRet te) n ds := fun G H σ a E l => h G H σ a _ fun v G1 H1 e1 s1 r1 => l.rt G1 H1 v d e1.s s1 r1 k
theorem st_retN (k : n.rt .non) : St c tRetN n ds := fun G H σ a E l => l.rt G H _ _ Exs.refl a.sub .non k
theorem st_drop (h : Ee c te ds d) (k : n.nx ds) : St c (tDrop te) n ds := fun G H σ a E l => h G H σ a _ fun v G1 H1 e1 s1 r1 => l.nx G1 H1 σ ds e1.s (a.go e1 s1) k
theorem st_asgG {js : List Nat} (h : Ee c te ds d) (hg : Eg c g d ds ds' js) (k : n.nx ds') : St c (tAsg te g) n ds := fun G H σ a E l => h G H σ a _ fun v G1 H1 e1 s1 r1 =>
  hg G1 H1 σ v (a.go e1 s1) r1 _ fun σ' a2 _ _ => l.nx G1 H1 σ' ds' e1.s a2 k
theorem st_asg {i : Nat} (h : Ee c te ds d) (hi : i < ds.length) (k : n.nx (ds.set i (.v d))) : St c (tAsg te (gName i)) n ds := st_asgG h (eg_name hi) k
theorem st_par {i j : Nat} {tr : TA} (h : Ea c tr ds [x, y]) (hi : i < ds.length) (hj : j < ds.length) (k : n.nx ((ds.set i (.v x)).set j (.v y))) : St c (tPar i j tr) n ds := fun G H σ a E l => h G H σ a _ fun vs G1 H1 e1 s1 r1 => by
  cases r1 with
  | cons r1 r2 => cases r2 with
    | cons r2 r3 =>
      cases r3
      exact ⟨_, _, rfl, l.nx G1 H1 _ _ e1.s (((a.go e1 s1).set r1 hi).set r2 (by simpa using hj)) k⟩
theorem st_if {b : Bool} (h : Et c tc ds b) (h1 : b = true → St c t1 n ds) (h2 : b = false → St c t2 n ds) : St c (tIfS tc t1 t2) n ds := fun G H σ a E l => h G H σ a _ fun G1 H1 e1 s1 => by
  cases b with
  | true => exact h1 rfl G1 H1 σ (a.go e1 s1) E (l.go e1.s)
  | false => exact h2 rfl G1 H1 σ (a.go e1 s1) E (l.go e1.s)
theorem st_aug {i : Nat} {ti : TIp} {w : D} (hx : ds[i]? = some (.v x)) (h : Ee c te ds y) (hr : ∀ G H v u, Ex G H → Rep c.K G v x → Rep c.K G u y → ∀ Q : VK, Then c.K G H w Q → ti v u H Q) (k : n.nx (ds.set i (.v w))) : St c (tAug i te ti) n ds := fun G H σ a E l => by
  obtain ⟨v, h1, h2⟩ := a.fr.ok i _ hx
  refine ⟨v, h1, h G H σ a _ fun u G1 H1 e1 s1 r1 => hr G1 H1 v u s1 (h2.mono e1.g) r1 _ fun w G2 H2 e2 s2 r2 => l.nx G2 H2 _ _ (e1.trans e2.all).s ((a.go (e1.trans e2.all) s2).set r2 ?_) k⟩
  exact (List.getElem?_eq_some_iff.mp hx).1
/-- forgetting -/
inductive Fle : Fm → Fm → Prop where
  | nil : Fle [] []
  | keep {s s' : Sl} {a b : Fm} : s = s' → Fle a b → Fle (s :: a) (s' :: b)
  | drop {s : Sl} {a b : Fm} : Fle a b → Fle (s :: a) (.no :: b)
theorem Fle.refl : ∀ a : Fm, Fle a a
  | [] => .nil
  | _ :: a => .keep rfl (Fle.refl a)
theorem Fle.get {a b : Fm} (h : Fle a b) : a.length = b.length ∧ ∀ (i : Nat) s, b[i]? = some s → s = .no ∨ a[i]? = some s := by
  induction h with
  | nil => exact ⟨rfl, fun i s e => by simp at e⟩
  | keep e _ ih =>
    refine ⟨by simp [ih.1], fun i s q => ?_⟩
    cases i with
    | zero => subst e; exact .inr q
    | succ i => exact ih.2 i s q
  | drop _ ih =>
    refine ⟨by simp [ih.1], fun i s q => ?_⟩
    cases i with
    | zero => simp at q; exact .inl q.symm
    | succ i => exact ih.2 i s q
theorem At.le {G H : Hp} {σ : L2.St} (h : Fle ds ds') (a : At c G H σ ds) : At c G H σ ds' := by
  obtain ⟨h1, h2⟩ := h.get
  refine ⟨a.sub, ⟨a.fr.len.trans h1, fun i s e => ?_, fun i j b xs ys hij e1 e2 => ?_⟩, a.lk, a.tr⟩
  · rcases h2 i s e with rfl | q
    · trivial
    · exact a.fr.ok i s q
  · have q1 := (h2 i _ e1).resolve_left (by simp)
    have q2 := (h2 j _ e2).resolve_left (by simp)
    exact a.fr.ap i j b xs ys hij q1 q2
theorem st_le (h : Fle ds ds') (k : St c t1 n ds') : St c t1 n ds := fun G H σ a => k G H σ (a.le h)
/-! ### while -/
theorem st_while {α : Type} (F : α → Fm) (I : α → Prop) (μ : α → Nat) (h0 : ∃ a, Fle ds (F a) ∧ I a)
    (hs : ∀ a, I a → ∃ b, Et c tc (F a) b ∧ (b = true → St c t1 { n with nx := fun ds' => ∃ a', Fle ds' (F a') ∧ I a' ∧ μ a' < μ a, ct := fun ds' => ∃ a', Fle ds' (F a') ∧ I a' ∧ μ a' < μ a, bk := n.nx } (F a)) ∧ (b = false → n.nx (F a))) : St c (tWhile tc t1) n ds := fun G0 H0 σ0 at' E l => by
  obtain ⟨a0, f0, i0⟩ := h0
  refine ⟨fun m σ H => ∃ G a, Exs c G0 H0 G H ∧ At c G H σ (F a) ∧ I a ∧ m = μ a, ⟨μ a0, G0, a0, Exs.refl, at'.le f0, i0, rfl⟩, ?_⟩
  rintro m σ H ⟨G, a, e0, at1, ia, rfl⟩
  obtain ⟨b, hb, h1, h2⟩ := hs a ia
  refine hb G H σ at1 _ fun G1 H1 e1 s1 => ?_
  cases b with
  | true =>
    refine ⟨fun σ' H' => ∃ m', m' < μ a ∧ ∃ G a', Exs c G0 H0 G H' ∧ At c G H' σ' (F a') ∧ I a' ∧ m' = μ a', fun σ' H' z => z, ?_⟩
    have go : ∀ (G' H' : Hp) (σ : L2.St) (ds : Fm), Exs c G1 H1 G' H' → At c G' H' σ ds → (∃ a', Fle ds (F a') ∧ I a' ∧ μ a' < μ a) → ∃ m', m' < μ a ∧ ∃ G a', Exs c G0 H0 G H' ∧ At c G H' σ (F a') ∧ I a' ∧ m' = μ a' :=
      fun G' H' σ ds x a2 ⟨a', f, i, m⟩ => ⟨μ a', m, G', a', (e0.trans e1.s).trans x, a2.le f, i, rfl⟩
    exact h1 rfl G1 H1 σ (at1.go e1 s1) _ ⟨go, (l.go (e0.trans e1.s)).rt, (l.go (e0.trans e1.s)).nx, go, (l.go (e0.trans e1.s)).er, (l.go (e0.trans e1.s)).rf, (l.go (e0.trans e1.s)).ef⟩
  | false => exact l.nx G1 H1 σ _ (e0.trans e1.s) (at1.go e1 s1) (h2 rfl)
/-! ### what is walked -/
structure ItD (K : PySem.W.Frag) (J : It) (xs : List D) (G1 : Hp) : Prop where
  go : ∀ i G H, Ex G1 G → Ex G H → i < xs.length → J.go i H
  yld : ∀ i G H v H', Ex G1 G → Ex G H → i < xs.length → J.yld i H v H' → ∃ d G', xs[i]? = some d ∧ Ext none G H G' H' ∧ Ex G' H' ∧ Rep K G' v d
  stop : ∀ G H, Ex G1 G → Ex G H → J.stop xs.length H
def Ei (c : Ctx) (wi : TI) (ds : Fm) (xs : List D) : Prop := ∀ G H σ, At c G H σ ds → ∀ R : It → Hp → Prop, (∀ J G1 H1, Ext c.l G H G1 H1 → Ex G1 H1 → ItD c.K J xs G1 → R J H1) → wi σ H R
theorem ei_list {tl : TE} (h : Ee c tl ds (.lst xs)) : Ei c (iList c.K tl) ds xs := fun G H σ a R q => h G H σ a _ fun v G1 H1 e1 s1 r1 => by
  cases r1 with
  | lst e r =>
    refine ⟨_, rfl, ⟨_, SqL.of (s1 _ _ e)⟩, q _ G1 H1 e1 s1 ⟨fun i G H e1 e2 hi => ?_, fun i G H v H' e1 e2 hi y => ?_, fun G H e1 e2 => ?_⟩⟩
    · rw [← r.len] at hi
      exact ⟨_, _, SqL.of (e2 _ _ (e1 _ _ e)), List.getElem?_eq_getElem hi⟩
    · obtain ⟨rfl, y⟩ := y
      have q := y _ (SqL.of (e2 _ _ (e1 _ _ e)))
      obtain ⟨d, h1, h2⟩ := r.get q
      exact ⟨d, G, h1, Ext.refl, e2, h2.mono e1⟩
    · exact ⟨_, SqL.of (e2 _ _ (e1 _ _ e)), by rw [r.len]; exact Nat.le_refl _⟩
theorem ei_tup {tl : TE} (h : Ee c tl ds (.tup xs)) : Ei c (iTup c.K tl) ds xs := fun G H σ a R q => h G H σ a _ fun v G1 H1 e1 s1 r1 => by
  cases r1 with
  | tup e r =>
    refine ⟨_, rfl, ⟨_, ex_t s1 e⟩, q _ G1 H1 e1 s1 ⟨fun i G H e1 e2 hi => ?_, fun i G H v H' e1 e2 hi y => ?_, fun G H e1 e2 => ?_⟩⟩
    · rw [← r.len] at hi
      exact ⟨_, _, ex_t (e1.trans e2) e, List.getElem?_eq_getElem hi⟩
    · obtain ⟨rfl, y⟩ := y
      have q := y _ (ex_t (e1.trans e2) e)
      obtain ⟨d, h1, h2⟩ := r.get q
      exact ⟨d, G, h1, Ext.refl, e2, h2.mono e1⟩
    · exact ⟨_, ex_t (e1.trans e2) e, by rw [r.len]; exact Nat.le_refl _⟩
def signs (s : Str) : List D := s.cps.toList.map fun k => D.str ⟨#[k]⟩
theorem ei_str {tl : TE} {s : Str} (h : Ee c tl ds (.str s)) : Ei c (iStr tl) ds (signs s) := fun G H σ a R q => h G H σ a _ fun v G1 H1 e1 s1 r1 => by
  cases r1
  have el : (signs s).length = s.cps.size := by simp [signs]
  refine ⟨s, rfl, q _ G1 H1 e1 s1 ⟨fun i G H e1 e2 hi => (by rw [el] at hi; exact hi : i < s.cps.size), fun i G H v H' e1 e2 hi y => ?_, fun G H e1 e2 => (by rw [el]; exact Nat.le_refl _ : s.cps.size ≤ (signs s).length)⟩⟩
  obtain ⟨rfl, k, hk, rfl⟩ := y
  exact ⟨.str ⟨#[k]⟩, G, by unfold signs; rw [List.getElem?_map, Array.getElem?_toList, hk]; rfl, Ext.refl, e2, .str _⟩
def upto (j : Int) : List D := (List.range j.toNat).map fun (i : Nat) => D.int (i : Int)
theorem upto_len (j : Int) : (upto j).length = j.toNat := by simp [upto]
theorem ei_rng1 {tr : TA} {j : Int} (h : Ea c tr ds [.int j]) (h1 : j ≤ 1000000000) (h2 : -1000000000 ≤ j) : Ei c (iRng1 tr) ds (upto j) := fun G H σ a R q => h G H σ a _ fun vs G1 H1 e1 s1 r1 => by
  cases r1 with
  | cons r r' =>
    cases r; cases r'
    refine ⟨j, rfl, by omega, by omega, q _ G1 H1 e1 s1 ⟨fun i G H e1 e2 hi => (by rw [upto_len] at hi; exact hi : i < j.toNat), fun i G H v H' e1 e2 hi y => ?_, fun G H e1 e2 => (by rw [upto_len]; exact Nat.le_refl _ : j.toNat ≤ (upto j).length)⟩⟩
    obtain ⟨rfl, rfl⟩ := y
    refine ⟨.int (i : Int), G, ?_, Ext.refl, e2, ?_⟩
    · rw [upto_len] at hi
      unfold upto
      rw [List.getElem?_map, List.getElem?_range hi]; rfl
    · have e0 : (0 : Int) + (i : Int) = (i : Int) := Int.zero_add _
      rw [e0]; exact .int _
/-! ### for -/
theorem for_core {α : Type} {J : It} {G1 H1 : Hp} {σ : L2.St} {E : Ends} (it : ItD c.K J xs G1) (at' : At c G1 H1 σ ds) (l : Le c G1 H1 n E) (F : Nat → α → Fm) (I : Nat → α → Prop) (h0 : ∃ a, Fle ds (F 0 a) ∧ I 0 a)
    (hs : ∀ i d a, xs[i]? = some d → I i a → ∃ ds2 js, Eg c g d (F i a) ds2 js ∧ St c t1 { n with nx := fun ds' => ∃ a', Fle ds' (F (i + 1) a') ∧ I (i + 1) a', ct := fun ds' => ∃ a', Fle ds' (F (i + 1) a') ∧ I (i + 1) a', bk := n.nx } ds2)
    (hd : ∀ a, I xs.length a → n.nx (F xs.length a)) : ∃ W : Nat → Nat → L2.St → Hp → Prop, (∃ m, W 0 m σ H1) ∧ ∀ i m σ H, W i m σ H →
  (J.stop i H ∧ E.nx σ H) ∨ (J.go i H ∧ ∃ N : L2.St → Hp → Prop, (∀ σ' H', N σ' H' → ∃ m', m' < m ∧ W (i + 1) m' σ' H') ∧ ∀ x H', J.yld i H x H' → g x σ H' fun σ2 H2 => t1 { E with nx := N, ct := N, bk := E.nx } σ2 H2) := by
  obtain ⟨a0, f0, i0⟩ := h0
  refine ⟨fun i m σ H => ∃ G a, Exs c G1 H1 G H ∧ At c G H σ (F i a) ∧ I i a ∧ i ≤ xs.length ∧ m = xs.length - i, ⟨xs.length, G1, a0, Exs.refl, at'.le f0, i0, Nat.zero_le _, rfl⟩, ?_⟩
  rintro i m σ H ⟨G, a, eg, at1, ia, il, rfl⟩
  by_cases hlt : i < xs.length
  · refine .inr ⟨it.go i G H eg.g at1.sub hlt, fun σ' H' => ∃ G a, Exs c G1 H1 G H' ∧ At c G H' σ' (F (i + 1) a) ∧ I (i + 1) a, fun σ' H' ⟨G, a, x1, x2, x3⟩ => ⟨xs.length - (i + 1), by omega, G, a, x1, x2, x3, hlt, rfl⟩, fun x H' y => ?_⟩
    obtain ⟨d, G', hd', ex, sb, rp⟩ := it.yld i G H x H' eg.g at1.sub hlt y
    obtain ⟨ds2, js, hg, hb⟩ := hs i d a hd' ia
    have e2 : Exs c G1 H1 G' H' := eg.trans (Ext.all ex).s
    refine hg G' H' σ x (at1.go ex.all sb) rp _ fun σ2 a2 _ _ => ?_
    have go : ∀ (G2 H2 : Hp) (σ : L2.St) (ds : Fm), Exs c G' H' G2 H2 → At c G2 H2 σ ds → (∃ a', Fle ds (F (i + 1) a') ∧ I (i + 1) a') → ∃ G a, Exs c G1 H1 G H2 ∧ At c G H2 σ (F (i + 1) a) ∧ I (i + 1) a :=
      fun G2 H2 σ ds x a3 ⟨a', f, i⟩ => ⟨G2, a', e2.trans x, a3.le f, i⟩
    exact hb G' H' σ2 a2 _ ⟨go, (l.go e2).rt, (l.go e2).nx, go, (l.go e2).er, (l.go e2).rf, (l.go e2).ef⟩
  · have e : i = xs.length := by omega
    subst e
    exact .inl ⟨it.stop G H eg.g at1.sub, l.nx G H σ _ eg at1 (hd a ia)⟩
theorem st_for {α : Type} {wi : TI} (hi : Ei c wi ds xs) (F : Nat → α → Fm) (I : Nat → α → Prop) (h0 : ∃ a, Fle ds (F 0 a) ∧ I 0 a)
    (hs : ∀ i d a, xs[i]? = some d → I i a → ∃ ds2 js, Eg c g d (F i a) ds2 js ∧ St c t1 { n with nx := fun ds' => ∃ a', Fle ds' (F (i + 1) a') ∧ I (i + 1) a', ct := fun ds' => ∃ a', Fle ds' (F (i + 1) a') ∧ I (i + 1) a', bk := n.nx } ds2)
    (hd : ∀ a, I xs.length a → n.nx (F xs.length a)) : St c (tFor wi g t1) n ds := fun G0 H0 σ at' E l => hi G0 H0 σ at' _ fun J G1 H1 e1 s1 it => for_core it (at'.go e1 s1) (l.go e1.s) F I h0 hs hd
/-! ### a list by a comprehension: out i is what stands behind i turns -/
theorem ee_lc {wi : TI} {tt : TT} {vs js : List Nat} (hi : Ei c wi ds xs) (out : Nat → List D) (h0 : out 0 = []) (hz : xs.length ≤ 1000000)
    (hl : ∀ i, i ≤ xs.length → (out i).length ≤ i) (hv : ∀ j ∈ js, j ∈ vs)
    (hs : ∀ i d, xs[i]? = some d → ∃ ds2 b, Eg c g d (wipeD ds vs) ds2 js ∧ Et c tt ds2 b ∧ (b = true → ∃ e, Ee c te ds2 e ∧ out (i + 1) = out i ++ [e]) ∧ (b = false → out (i + 1) = out i)) :
    Ee c (tLc wi g tt te vs) ds (.lst (out xs.length)) := fun G0 H0 σ at' Q q => hi G0 H0 σ at' _ fun J G1 H1 e1 s1 it => by
  intro Dl hDl
  have at1 : At c G1 H1 σ ds := at'.go e1 s1
  have hg1 : G1 Dl = none := sub_none s1 hDl
  have hne : NotL c.l Dl := fun y z => (at1.lk Dl y z).1 hDl
  -- what holds behind i turns: the known part G, the list at Dl
  let P : Nat → Hp → Prop := fun i H => ∃ G ys, Ext c.l G1 H1 G H ∧ Ex G H ∧ G Dl = none ∧ H Dl = some (.lst ys) ∧ Reps c.K G ys (out i)
  refine ⟨fun i m H => i ≤ xs.length ∧ m = xs.length - i ∧ P i H, ⟨xs.length, Nat.zero_le _, rfl, G1, [], Ext.refl.mut hDl, sub_hid s1 hg1, hg1, upd_same, by rw [h0]; exact .nil⟩, ?_⟩
  rintro i m H ⟨il, rfl, G, ys, eg, sb, gd, hd, rp⟩
  by_cases hlt : i < xs.length
  · refine .inr ⟨it.go i G H eg.g sb hlt, P (i + 1), fun H' p => ⟨xs.length - (i + 1), by omega, hlt, rfl, p⟩, fun x H' y => ?_⟩
    obtain ⟨d, G2, hd', ex, sb2, rx⟩ := it.yld i G H x H' eg.g sb hlt y
    obtain ⟨ds2, b, hg, ht, hT, hF⟩ := hs i d hd'
    have e2 : Ext c.l G1 H1 G2 H' := eg.trans ex.all
    have at2 : At c G2 H' (wipe σ vs) (wipeD ds vs) := (at1.go e2 sb2).wipe vs
    refine hg G2 H' _ x at2 rx _ fun σ2 a2 len2 keep => ⟨wipe_same (by rw [len2, wipe_length]) fun k hk => keep k fun z => hk (hv k z), ?_⟩
    have nd : ∀ {G3 H3}, Ext c.l G2 H' G3 H3 → G3 Dl = none ∧ H3 Dl = some (.lst ys) := fun e3 => by
      have h1 : H' Dl = some (.lst ys) := ex.h Dl _ (fun _ z => nomatch z) hd
      refine ⟨e3.n Dl (by rw [h1]; simp) (ex.n Dl (by rw [hd]; simp) gd), e3.h Dl _ hne h1⟩
    refine ht G2 H' σ2 a2 _ fun G3 H3 e3 s3 => ?_
    cases b with
    | true =>
      obtain ⟨e, he, ho⟩ := hT rfl
      refine he G3 H3 σ2 (a2.go e3 s3) _ fun v G4 H4 e4 s4 r4 => ?_
      obtain ⟨n1, n2⟩ := nd (e3.trans e4)
      have g4 : Ext c.l G1 H1 G4 H4 := (e2.trans e3).trans e4
      have len : ys.length ≤ i := by rw [rp.len]; exact hl i il
      refine ⟨ys, n2, sz_lt (by omega), G4, ys ++ [v], g4.mut hDl, sub_hid s4 n1, n1, upd_same, ?_⟩
      rw [ho]
      exact (rp.mono ((ex.g.trans e3.g).trans e4.g)).app (.cons r4 .nil)
    | false =>
      obtain ⟨n1, n2⟩ := nd e3
      exact ⟨G3, ys, e2.trans e3, s3, n1, n2, by rw [hF rfl]; exact rp.mono (ex.g.trans e3.g)⟩
  · have e : i = xs.length := by omega
    subst e
    -- the list becomes known
    refine .inl ⟨it.stop G H eg.g sb, q _ (upd G Dl (.lst ys)) H ⟨eg.g.trans (Ex.new gd) |> e1.g.trans, (e1.trans eg).h, fun b hb hn => ?_, (e1.trans eg).t, (e1.trans eg).dr⟩ (fun b u e => ?_) (.lst upd_same (rp.mono (Ex.new gd)))⟩
    · have h1 : H1 b ≠ none := e1.t b hb
      rw [upd_ne (fun z => h1 (by rw [z]; exact hDl))]
      exact (e1.trans eg).n b hb hn
    · by_cases hb : b = Dl
      · subst hb; rw [upd_same] at e; rw [hd, e]
      · rw [upd_ne hb] at e; exact sb b u e
/-- .. without a test -/
theorem ee_lcM {wi : TI} {vs js : List Nat} {f : D → D} (hi : Ei c wi ds xs) (hz : xs.length ≤ 1000000) (hv : ∀ j ∈ js, j ∈ vs)
    (hs : ∀ (i : Nat) d, xs[i]? = some d → ∃ ds2, Eg c g d (wipeD ds vs) ds2 js ∧ Ee c te ds2 (f d)) :
    Ee c (tLc wi g tYes te vs) ds (.lst (xs.map f)) := by
  have h := ee_lc (tt := tYes) (te := te) (g := g) (vs := vs) (js := js) hi (fun i => (xs.take i).map f) (by simp) hz (fun i hi => by simp; omega) hv (fun i d hd => by
    obtain ⟨ds2, h1, h2⟩ := hs i d hd
    refine ⟨ds2, true, h1, et_yes, fun _ => ⟨f d, h2, ?_⟩, fun z => nomatch z⟩
    have hlt := (List.getElem?_eq_some_iff.mp hd).1
    rw [List.take_succ, List.map_append, hd]; rfl)
  rw [List.take_of_length_le (Nat.le_refl _)] at h
  exact h
end

section
variable {c : Ctx} {ds : Fm} {te : TE} {g : TG} {α : Type} {ys : List α} {gD h : α → D} {wi : TI} {vs js : List Nat} {tt : TT}
theorem ee_lcA (hi : Ei c wi ds (ys.map gD)) (h : α → D) (hz : ys.length ≤ 1000000) (hv : ∀ j ∈ js, j ∈ vs)
    (hs : ∀ (i : Nat) y, ys[i]? = some y → ∃ ds2, Eg c g (gD y) (wipeD ds vs) ds2 js ∧ Ee c te ds2 (h y)) : Ee c (tLc wi g tYes te vs) ds (.lst (ys.map h)) := by
  have q := ee_lc (tt := tYes) (te := te) (g := g) (vs := vs) (js := js) hi (fun i => (ys.take i).map h) (by simp) (by rw [List.length_map]; exact hz) (fun i hi => by simp; omega) hv (fun i d hd => by
    rw [List.getElem?_map] at hd
    cases e : ys[i]? with
    | none => rw [e] at hd; cases hd
    | some y =>
      rw [e] at hd
      have hd' : gD y = d := Option.some.inj hd
      subst hd'
      obtain ⟨ds2, h1, h2⟩ := hs i y e
      refine ⟨ds2, true, h1, et_yes, fun _ => ⟨h y, h2, ?_⟩, fun z => nomatch z⟩
      rw [List.take_succ, List.map_append, e]; rfl)
  rw [List.length_map, List.take_of_length_le (Nat.le_refl _)] at q
  exact q
/-- .. with a test -/
theorem ee_lcF (hi : Ei c wi ds (ys.map gD)) (b : α → Bool) (h : α → D) (hz : ys.length ≤ 1000000) (hv : ∀ j ∈ js, j ∈ vs)
    (hs : ∀ (i : Nat) y, ys[i]? = some y → ∃ ds2, Eg c g (gD y) (wipeD ds vs) ds2 js ∧ Et c tt ds2 (b y) ∧ (b y = true → Ee c te ds2 (h y))) : Ee c (tLc wi g tt te vs) ds (.lst ((ys.filter b).map h)) := by
  have q := ee_lc (tt := tt) (te := te) (g := g) (vs := vs) (js := js) hi (fun i => ((ys.take i).filter b).map h) (by simp) (by rw [List.length_map]; exact hz) (fun i hi => by
      rw [List.length_map]
      exact Nat.le_trans (List.length_filter_le _ _) (by simp; omega)) hv (fun i d hd => by
    rw [List.getElem?_map] at hd
    cases e : ys[i]? with
    | none => rw [e] at hd; cases hd
    | some y =>
      rw [e] at hd
      have hd' : gD y = d := Option.some.inj hd
      subst hd'
      obtain ⟨ds2, h1, h2, h3⟩ := hs i y e
      have st : (ys.take (i + 1)).filter b = (ys.take i).filter b ++ [y].filter b := by
        rw [List.take_succ, List.filter_append, e]; rfl
      refine ⟨ds2, b y, h1, h2, fun hb => ⟨h y, h3 hb, ?_⟩, fun hb => ?_⟩
      · rw [st, List.map_append, List.filter_cons, if_pos hb]; rfl
      · rw [st, List.map_append, List.filter_cons, if_neg (by rw [hb]; decide)]; simp)
  rw [List.length_map, List.take_of_length_le (Nat.le_refl _)] at q
  exact q
end
/-! ### defs: what they take, what they give -/
inductive Res where
  | ok (d : D) | err (C : Value) (o : Option Int)
def spA {α : Type} (K : PySem.W.Frag) (args : α → List D) (pre : α → Prop) (res : α → Res) : Sp := fun vs H Q E => ∃ G a, Ex G H ∧ Reps K G vs (args a) ∧ pre a ∧
  (∀ d, res a = .ok d → Then K G H d Q) ∧ ∀ C o, res a = .err C o → ∀ G1 H1, Ext none G H G1 H1 → Ex G1 H1 → Flies E C o H1
theorem spA_len {α : Type} {K : PySem.W.Frag} {args : α → List D} {pre : α → Prop} {res : α → Res} {k : Nat} (hk : ∀ a, (args a).length = k) : ∀ vs H Q E, spA K args pre res vs H Q E → vs.length = k := fun vs H Q E h => by
  obtain ⟨G, a, _, r, _⟩ := h
  rw [r.len, hk]
section
variable {α : Type} {args : α → List D} {pre : α → Prop} {res : α → Res} {c : Ctx} {ds : Fm} {ta : TA} {te : TE} {d : D} {a : α} {n : DE} {K : PySem.W.Frag}
theorem ee_call {E : XK} {xs : List D} (h : Ea c ta ds xs) (hx : xs = args a) (hp : pre a) (hr : res a = .ok d) : Ee c (tCall (spA c.K args pre res) [] E ta) ds d := fun G H σ at' Q q =>
  h G H σ at' _ fun vs G1 H1 e1 s1 r1 => by
    rw [List.append_nil]
    subst hx
    exact ⟨G1, a, s1, r1, hp, fun d' hd => by rw [hr] at hd; cases hd; exact fun u G2 H2 e2 s2 r2 => q u G2 H2 (e1.trans e2.all) s2 r2, fun C o z => by rw [hr] at z; cases z⟩
/-- a call that may raise, as a statement -/
theorem st_call {xs : List D} (h : Ea c ta ds xs) (hx : xs = args a) (hp : pre a) (h1 : ∀ d, res a = .ok d → n.nx ds) (h2 : ∀ C o, res a = .err C o → n.er C o) : St c (tDrop (tCall (spA c.K args pre res) [] c.X ta)) n ds := fun G H σ at' E l =>
  h G H σ at' _ fun vs G1 H1 e1 s1 r1 => by
    rw [List.append_nil]
    subst hx
    exact ⟨G1, a, s1, r1, hp, fun d' hd => fun u G2 H2 e2 s2 r2 => l.nx G2 H2 σ ds (e1.trans e2.all).s (at'.go (e1.trans e2.all) s2) (h1 d' hd), fun C o z G2 H2 e2 s2 => l.er G2 H2 C o (e1.trans e2.all).s s2 (h2 C o z)⟩
/-- .. returned -/
theorem st_retcall {xs : List D} (h : Ea c ta ds xs) (hx : xs = args a) (hp : pre a) (h1 : ∀ d, res a = .ok d → n.rt d) (h2 : ∀ C o, res a = .err C o → n.er C o) : St c (tRet (tCall (spA c.K args pre res) [] c.X ta)) n ds := fun G H σ at' E l =>
  h G H σ at' _ fun vs G1 H1 e1 s1 r1 => by
    rw [List.append_nil]
    subst hx
    exact ⟨G1, a, s1, r1, hp, fun d' hd => fun u G2 H2 e2 s2 r2 => l.rt G2 H2 u d' (e1.trans e2.all).s s2 r2 (h1 d' hd), fun C o z G2 H2 e2 s2 => l.er G2 H2 C o (e1.trans e2.all).s s2 (h2 C o z)⟩
/-- f(x) of a def or method by its frame: the whole body by data -/
theorem slots {G H : Hp} {vs : List V} {xs : List D} {N : List Str} (s : Ex G H) (r : Reps c.K G vs xs) : Fr c G H (L2.start N vs) (xs.map Sl.v ++ List.replicate (N.length - xs.length) Sl.no) := by
  have hl := r.len
  refine ⟨by unfold L2.start; simp [hl], fun i s e => ?_, fun i j b ys zs _ e1 _ _ => ?_⟩
  · rw [List.getElem?_append] at e
    split at e
    · rename_i hi
      simp at hi
      rw [List.getElem?_map] at e
      cases h : xs[i]? with
      | none => rw [h] at e; cases e
      | some d =>
        rw [h] at e
        have e' : Sl.v d = s := Option.some.inj e
        subst e'
        obtain ⟨v, h1, h2⟩ := r.getD h
        refine ⟨v, ?_, h2⟩
        unfold L2.start
        rw [List.getElem?_append_left (by simp; omega), List.getElem?_map, h1]; rfl
    · rw [List.getElem?_replicate] at e
      split at e
      · cases e; trivial
      · cases e
  · rw [List.getElem?_append] at e1
    split at e1
    · rw [List.getElem?_map] at e1
      cases h : xs[i]? with
      | none => rw [h] at e1; cases e1
      | some d => rw [h] at e1; cases e1
    · rw [List.getElem?_replicate] at e1
      split at e1
      · cases e1
      · cases e1
theorem go_fn {N : List Str} {t : TS} {vs : List V} {H : Hp} {Q : VK} {E : XK} (h : spA K args pre res vs H Q E)
    (k : ∀ (a : α) (W : Addr → Prop), pre a → St ⟨K, none, E, W, fun _ => False⟩ t { nx := fun _ => res a = .ok .non, rt := fun d => res a = .ok d, er := fun C o => res a = .err C o } ((args a).map Sl.v ++ List.replicate (N.length - (args a).length) Sl.no)) :
    t { nx := fun _ H' => Q .non H', rt := Q } (L2.start N vs) H := by
  obtain ⟨G, a, s, r, p, h1, h2⟩ := h
  have up : ∀ {G' H'}, Exs ⟨K, none, E, fun b => H b ≠ none, fun _ => False⟩ G H G' H' → Ext none G H G' H' := fun e =>
    ⟨e.g, fun b o _ q => e.h b o (by show H b ≠ none; rw [q]; simp) (fun z => z) (fun _ z => nomatch z) q, fun b q z => e.n b q q z, e.t, fun b _ z => (nomatch z)⟩
  refine k a (fun b => H b ≠ none) p G H _ ⟨s, slots s r, fun b _ z => (nomatch z), fun b z => z⟩ _ ⟨fun G' H' σ ds x a' z => h1 _ z .non G' H' (up x) a'.sub .non, fun G' H' v d x s' r' z => h1 d z v G' H' (up x) s' r', fun _ _ _ _ _ _ z => z.elim, fun _ _ _ _ _ _ z => z.elim, fun G' H' C o x s' z => h2 C o z G' H' (up x) s', fun _ _ _ _ _ _ _ _ _ z => z.elim, fun _ _ _ _ _ _ _ z => z.elim⟩
/-- fields of an instance -/
theorem lookup_reps {G : Hp} {f : Str} : ∀ {fs : List (Str × V)} {xs : List D}, Reps K G (fs.map (·.2)) xs → ((fs.map (·.1)).zip xs).lookup f = some d → ∃ v, fs.lookup f = some v ∧ Rep K G v d
  | [], xs, r, h => by simp [List.lookup] at h
  | (g, v) :: fs, xs, r, h => by
    cases r with
    | cons a b =>
      simp only [List.map_cons, List.zip_cons_cons, List.lookup] at h ⊢
      split at h
      · rename_i e; cases h; exact ⟨v, rfl, a⟩
      · rename_i e; exact lookup_reps b h
theorem ee_fld {C : Addr} {ns : List Str} {xs : List D} {f : Str} (h : Ee c te ds (.obj C ns xs)) (hc : Cls c.K C) (hn : NoAttr c.K C f) (hl : (ns.zip xs).lookup f = some d) : Ee c (tFld c.K te f) ds d := fun G H σ a Q q =>
  h G H σ a _ fun v G1 H1 e1 s1 r1 => by
    cases r1 with
    | obj e en r =>
      subst en
      obtain ⟨v, h1, h2⟩ := lookup_reps r hl
      exact ⟨_, C, _, _, v, rfl, s1 _ _ e, hc, hn, h1, q v G1 H1 e1 s1 h2⟩
end
end Dl

/-! Dv: operators on plain data; one rule of each operator for all its kinds. -/
namespace Dl
open PySem L2 Evl PySem.Spec PyProof.Rows
section
variable {X : Cx}
def CMulS (x : Str) (n : Int) : Prop := -(2 ^ 63) ≤ n ∧ n < 2 ^ 63 ∧ (x.length : Int) * n ≤ 1000000
theorem op_mulS : OpR X (binaryOp .Mult) (fun x y H Q => ∃ i n, x = .str i ∧ y = .int n ∧ MulOk i n ∧ Q (.str (Txt.mul i n)) H) := by
  intro pins s σ H x y v u Q I r1 r2 h
  obtain ⟨i, n, rfl, rfl, hc, q⟩ := h
  obtain ⟨t, rfl⟩ := r1
  obtain ⟨t', rfl⟩ := r2
  exact SB.mul hc fun t' k => ⟨.str _, H, I.tok _, ⟨_, rfl⟩, q⟩
def rAddG (K : PySem.W.Frag) : R2 := fun x y H Q => (rI0 fun i j => .int (i + j)) x y H Q ∨ (fun x y H Q => ∃ i j, x = .str i ∧ y = .str j ∧ i.length + j.length ≤ sizeLine ∧ Q (.str (i ++ j)) H : R2) x y H Q ∨ rCat x y H Q ∨ rCatA K x y H Q
theorem op_addG : OpR X (binaryOp .Add) (rAddG X.K) := op_add.or (op_add_str.or (op_cat.or op_catA))
def rMulG (K : PySem.W.Frag) : R2 := fun x y H Q => (rI CMulW fun i j => .int (i * j)) x y H Q ∨ (rI CMul fun i j => .int (i * j)) x y H Q ∨ (fun x y H Q => ∃ i n, x = .str i ∧ y = .int n ∧ MulOk i n ∧ Q (.str (Txt.mul i n)) H : R2) x y H Q ∨ rRep x y H Q ∨ rRepT K x y H Q
theorem op_mulG : OpR X (binaryOp .Mult) (rMulG X.K) := op_mulW.or (op_mul.or (op_mulS.or (op_rep.or op_repT)))
def rSubG : R2 := rI0 fun i j => .int (i - j)
theorem op_subG : OpR X (binaryOp .Sub) rSubG := op_sub
def rDivG : R2 := rI CDivW fun i j => .int (i / j)
theorem op_divG : OpR X (binaryOp .FloorDiv) rDivG := op_fdivW
def rModG : R2 := rI (fun _ j => 0 < j) fun i j => .int (i % j)
theorem op_modG : OpR X (binaryOp .Mod) rModG := op_mod
def rPowG : R2 := rI CPow fun i j => .int (i ^ j.toNat)
theorem op_powG : OpR X (binaryOp .Pow) rPowG := op_pow
def rLtG : R2 := fun x y H Q => (rI0 fun i j => .bl (decide (i < j))) x y H Q ∨ (fun x y H Q => ∃ i j, x = .str i ∧ y = .str j ∧ Q (.bl (decide (i.cps.toList < j.cps.toList))) H : R2) x y H Q
theorem op_ltG : OpR X (compareOp .Lt) rLtG := op_lt.or op_lt_str
def rLeG : R2 := rI0 fun i j => .bl (decide (i ≤ j))
theorem op_leG : OpR X (compareOp .LtE) rLeG := op_le
def rGtG : R2 := rI0 fun i j => .bl (decide (j < i))
theorem op_gtG : OpR X (compareOp .Gt) rGtG := op_gt
def rGeG : R2 := rI0 fun i j => .bl (decide (j ≤ i))
theorem op_geG : OpR X (compareOp .GtE) rGeG := op_ge
def rEqG (K : PySem.W.Frag) : R2 := fun x y H Q => rEq x y H Q ∨ rEqD K x y H Q
theorem op_eqG (hu : X.A.units + 64 < cLine) : OpR X (compareOp .Eq) (Dl.rEqG X.K) := op_eq.or (op_eqD hu)
def rNeG (K : PySem.W.Frag) : R2 := fun x y H Q => rNe x y H Q ∨ rNeD K x y H Q
theorem op_neG (hu : X.A.units + 64 < cLine) : OpR X (compareOp .NotEq) (rNeG X.K) := op_ne.or (op_neD hu)
def rIsG : R2 := fun x y H Q => y = .non ∧ Q (.bl (decide (x = .non))) H
theorem op_isG : OpR X (compareOp .Is) rIsG := op_isN
def rNisG : R2 := fun x y H Q => y = .non ∧ Q (.bl (!decide (x = .non))) H
theorem op_nisG : OpR X (compareOp .IsNot) rNisG := op_notN
def rInG (K : PySem.W.Frag) : R2 := rIn K false
theorem op_inG : OpR X (compareOp .In) (rInG X.K) := op_in_seq
def rNinG (K : PySem.W.Frag) : R2 := rIn K true
theorem op_ninG : OpR X (compareOp .NotIn) (rNinG X.K) := op_notIn_seq
def rIxG (K : PySem.W.Frag) : R2 := rIx K
theorem ix_G : IxR X (rIxG X.K) := ix_seq
def rLenG (K : PySem.W.Frag) : List V → Hp → VK → Prop := fun xs H Q => ∃ x n, xs = [x] ∧ LenV K x H n ∧ Q (.int (n : Nat)) H
theorem call_lenG : CallR X (.builtin "len") (rLenG X.K) := call_len
def rSlG (K : PySem.W.Frag) : V → Option Int → Option Int → Hp → VK → Prop := fun x lo hi H Q => rSlL K x lo hi H Q ∨ rSlS x lo hi H Q ∨ rSlA K x lo hi H Q
theorem sl_G : SlR X (rSlG X.K) := sl_list.or (sl_str.or sl_tupA)
def rIntG : List V → Hp → VK → Prop := fun xs H Q => (∃ i, xs = [.int i] ∧ Q (.int i) H) ∨ ∃ k, xs = [.bl k] ∧ Q (.int (if k then 1 else 0)) H
theorem call_intG : CallR X (.type "int") rIntG := call_int1
/-- truth, as a test -/
def tTruG (K : PySem.W.Frag) (ta : TE) : TT := fun σ H Q => ta σ H fun x H' => ∃ k, TruV K x H' k ∧ Q k H'
theorem pt_truG {a : Expr} {ta : TE} (ha : PE X a ta) (he : ∀ whole, isTrue a X.env whole = (do let v ← whole; standAt a.pos; holding [v] (truthy v)) := by intro _; rfl) : PT X a (tTruG X.K ta) := pt_truth ha he
end

section
variable {K : PySem.W.Frag} {c : Ctx} {ds : Fm}
theorem rb_addI {i j : Int} : Rb K (rAddG K) (.int i) (.int j) (.int (i + j)) := fun G H v w s r1 r2 Q t => by
  cases r1; cases r2
  exact .inl ⟨i, j, rfl, rfl, t.same s (.int _)⟩
theorem rb_addS {x y : Str} (h : x.length + y.length ≤ 1000000) : Rb K (rAddG K) (.str x) (.str y) (.str (x ++ y)) := fun G H v w s r1 r2 Q t => by
  cases r1; cases r2
  exact .inr (.inl ⟨x, y, rfl, rfl, sz_of h, t.same s (.str _)⟩)
theorem rb_addL {x y : List D} (h : x.length + y.length ≤ 1000000) : Rb K (rAddG K) (.lst x) (.lst y) (.lst (x ++ y)) := fun G H v w s r1 r2 Q t => by
  cases r1 with
  | lst e1 q1 => cases r2 with
    | lst e2 q2 => exact .inr (.inr (.inl ⟨_, _, _, _, rfl, rfl, s _ _ e1, s _ _ e2, by rw [q1.len, q2.len]; exact sz_of h, t.lst s (q1.app q2)⟩))
theorem rb_subI {i j : Int} : Rb K rSubG (.int i) (.int j) (.int (i - j)) := fun G H v w s r1 r2 Q t => by
  cases r1; cases r2
  exact ⟨i, j, rfl, rfl, t.same s (.int _)⟩
/-- products: one factor small, or both of a bounded size -/
theorem rb_mulL {i j : Int} (h : -(2 ^ 64) < i ∧ i < 2 ^ 64) : Rb K (rMulG K) (.int i) (.int j) (.int (i * j)) := fun G H v w s r1 r2 Q t => by
  cases r1; cases r2
  exact .inr (.inl ⟨i, j, rfl, rfl, .inl h, t.same s (.int _)⟩)
theorem rb_mulR {i j : Int} (h : -(2 ^ 64) < j ∧ j < 2 ^ 64) : Rb K (rMulG K) (.int i) (.int j) (.int (i * j)) := fun G H v w s r1 r2 Q t => by
  cases r1; cases r2
  exact .inr (.inl ⟨i, j, rfl, rfl, .inr h, t.same s (.int _)⟩)
theorem rb_mulW {i j : Int} (h : CMulW i j) : Rb K (rMulG K) (.int i) (.int j) (.int (i * j)) := fun G H v w s r1 r2 Q t => by
  cases r1; cases r2
  exact .inl ⟨i, j, rfl, rfl, h, t.same s (.int _)⟩
theorem rb_mulS {x : Str} {j : Int} (h : MulOk x j) : Rb K (rMulG K) (.str x) (.int j) (.str (Txt.mul x j)) := fun G H v w s r1 r2 Q t => by
  cases r1; cases r2
  exact .inr (.inr (.inl ⟨x, j, rfl, rfl, h, t.same s (.str _)⟩))
theorem rb_div {i j : Int} (h : CDivW i j) : Rb K rDivG (.int i) (.int j) (.int (i / j)) := fun G H v w s r1 r2 Q t => by
  cases r1; cases r2
  exact ⟨i, j, rfl, rfl, h, t.same s (.int _)⟩
theorem rb_mod {i j : Int} (h : 0 < j) : Rb K rModG (.int i) (.int j) (.int (i % j)) := fun G H v w s r1 r2 Q t => by
  cases r1; cases r2
  exact ⟨i, j, rfl, rfl, h, t.same s (.int _)⟩
theorem rb_pow {i j : Int} (h : CPow i j) : Rb K rPowG (.int i) (.int j) (.int (i ^ j.toNat)) := fun G H v w s r1 r2 Q t => by
  cases r1; cases r2
  exact ⟨i, j, rfl, rfl, h, t.same s (.int _)⟩
theorem rb_ltI {i j : Int} : Rb K rLtG (.int i) (.int j) (.bl (decide (i < j))) := fun G H v w s r1 r2 Q t => by
  cases r1; cases r2
  exact .inl ⟨i, j, rfl, rfl, t.same s (.bl _)⟩
theorem rb_ltS {i j : Str} : Rb K rLtG (.str i) (.str j) (.bl (decide (i.cps.toList < j.cps.toList))) := fun G H v w s r1 r2 Q t => by
  cases r1; cases r2
  exact .inr ⟨i, j, rfl, rfl, t.same s (.bl _)⟩
theorem rb_le {i j : Int} : Rb K rLeG (.int i) (.int j) (.bl (decide (i ≤ j))) := fun G H v w s r1 r2 Q t => by
  cases r1; cases r2
  exact ⟨i, j, rfl, rfl, t.same s (.bl _)⟩
theorem rb_gt {i j : Int} : Rb K rGtG (.int i) (.int j) (.bl (decide (j < i))) := fun G H v w s r1 r2 Q t => by
  cases r1; cases r2
  exact ⟨i, j, rfl, rfl, t.same s (.bl _)⟩
theorem rb_ge {i j : Int} : Rb K rGeG (.int i) (.int j) (.bl (decide (j ≤ i))) := fun G H v w s r1 r2 Q t => by
  cases r1; cases r2
  exact ⟨i, j, rfl, rfl, t.same s (.bl _)⟩
theorem rb_eqI {i j : Int} : Rb K (Dl.rEqG K) (.int i) (.int j) (.bl (decide (i = j))) := fun G H v w s r1 r2 Q t => by
  cases r1; cases r2
  refine .inl ⟨rfl, ?_⟩
  have e : decide (V.int i = V.int j) = decide (i = j) := by simp
  rw [e]
  exact t.same s (.bl _)
theorem rb_neI {i j : Int} : Rb K (rNeG K) (.int i) (.int j) (.bl (!decide (i = j))) := fun G H v w s r1 r2 Q t => by
  cases r1; cases r2
  refine .inl ⟨rfl, ?_⟩
  have e : decide (V.int i = V.int j) = decide (i = j) := by simp
  rw [e]
  exact t.same s (.bl _)
theorem rb_eqS {i j : Str} : Rb K (Dl.rEqG K) (.str i) (.str j) (.bl (decide (i = j))) := fun G H v w s r1 r2 Q t => by
  cases r1; cases r2
  refine .inl ⟨rfl, ?_⟩
  have e : decide (V.str i = V.str j) = decide (i = j) := by simp
  rw [e]
  exact t.same s (.bl _)
theorem rb_neS {i j : Str} : Rb K (rNeG K) (.str i) (.str j) (.bl (!decide (i = j))) := fun G H v w s r1 r2 Q t => by
  cases r1; cases r2
  refine .inl ⟨rfl, ?_⟩
  have e : decide (V.str i = V.str j) = decide (i = j) := by simp
  rw [e]
  exact t.same s (.bl _)
def isNonD : D → Bool
  | .non => true
  | _ => false
theorem non_of {G : Hp} {v : V} {d : D} (r : Rep K G v d) : decide (v = .non) = isNonD d := by cases r <;> simp [isNonD]
theorem rb_is {x : D} : Rb K rIsG x .non (.bl (isNonD x)) := fun G H v w s r1 r2 Q t => by
  cases r2
  exact ⟨rfl, by rw [non_of r1]; exact t.same s (.bl _)⟩
theorem rb_nis {x : D} : Rb K rNisG x .non (.bl (!isNonD x)) := fun G H v w s r1 r2 Q t => by
  cases r2
  exact ⟨rfl, by rw [non_of r1]; exact t.same s (.bl _)⟩
/-- places -/
theorem atI_reps {G : Hp} {vs : List V} {xs : List D} {i : Int} {d : D} (r : Reps K G vs xs) (h : atI xs i = some d) : ∃ v, atI vs i = some v ∧ Rep K G v d := by
  unfold atI at h ⊢
  rw [r.len]
  cases e : ixN xs.length i with
  | none => rw [e] at h; cases h
  | some j =>
    rw [e] at h
    exact r.getD h
theorem rb_ixL {xs : List D} {i : Int} {d : D} (h : atI xs i = some d) : Rb K (rIxG K) (.lst xs) (.int i) d := fun G H v w s r1 r2 Q t => by
  cases r2
  cases r1 with
  | lst e q =>
    obtain ⟨v, h1, h2⟩ := atI_reps q h
    exact .inl ⟨_, _, i, v, rfl, rfl, SqL.of (s _ _ e), h1, t.same s h2⟩
theorem rb_ixT {xs : List D} {i : Int} {d : D} (h : atI xs i = some d) : Rb K (rIxG K) (.tup xs) (.int i) d := fun G H v w s r1 r2 Q t => by
  cases r2
  cases r1 with
  | tup e q =>
    obtain ⟨v, h1, h2⟩ := atI_reps q h
    exact .inr (.inl ⟨_, _, i, v, rfl, rfl, ex_t s e, h1, t.same s h2⟩)
theorem rb_ixS {x : Str} {i : Int} {k : Nat} (hz : x.length ≤ 1000000) (h : atI x.cps.toList i = some k) : Rb K (rIxG K) (.str x) (.int i) (.str ⟨#[k]⟩) := fun G H v w s r1 r2 Q t => by
  cases r2; cases r1
  exact .inr (.inr ⟨x, i, k, rfl, rfl, sz_of hz, h, t.same s (.str _)⟩)
theorem rc_lenL {xs : List D} : Rc K (rLenG K) [.lst xs] (.int (xs.length : Nat)) := fun G H vs s r Q t => by
  cases r with
  | cons r r' =>
    cases r'
    cases r with
    | lst e q => exact ⟨_, xs.length, rfl, .inl ⟨_, SqL.of (s _ _ e), by rw [q.len]⟩, t.same s (.int _)⟩
theorem rc_lenT {xs : List D} : Rc K (rLenG K) [.tup xs] (.int (xs.length : Nat)) := fun G H vs s r Q t => by
  cases r with
  | cons r r' =>
    cases r'
    cases r with
    | tup e q => exact ⟨_, xs.length, rfl, .inr ⟨_, ex_t s e, by rw [q.len]⟩, t.same s (.int _)⟩
theorem rc_lenS {x : Str} (h : x.length ≤ 1000000) : Rc K (rLenG K) [.str x] (.int (x.length : Nat)) := fun G H vs s r Q t => by
  cases r with
  | cons r r' =>
    cases r'
    cases r
    exact ⟨_, x.length, rfl, ⟨sz_of h, rfl⟩, t.same s (.int _)⟩
theorem rc_int {i : Int} : Rc K rIntG [.int i] (.int i) := fun G H vs s r Q t => by
  cases r with
  | cons r r' =>
    cases r'; cases r
    exact .inl ⟨i, rfl, t.same s (.int _)⟩
theorem rc_intB {k : Bool} : Rc K rIntG [.bl k] (.int (if k then 1 else 0)) := fun G H vs s r Q t => by
  cases r with
  | cons r r' =>
    cases r'; cases r
    exact .inr ⟨k, rfl, t.same s (.int _)⟩
theorem rc_sum {ns : List Int} : Rc K (rSum K) [.lst (ns.map D.int)] (.int ns.sum) := fun G H vs s r Q t => by
  cases r with
  | cons r r' =>
    cases r'
    cases r with
    | lst e q => exact ⟨_, ns, rfl, by rw [← q.ints]; exact SqL.of (s _ _ e), t.same s (.int _)⟩
theorem rc_all {ns : List Bool} : Rc K (rAll K) [.lst (ns.map D.bl)] (.bl (ns.all id)) := fun G H vs s r Q t => by
  cases r with
  | cons r r' =>
    cases r'
    cases r with
    | lst e q => exact ⟨_, ns, rfl, by rw [← q.bls]; exact SqL.of (s _ _ e), t.same s (.bl _)⟩
theorem rc_any {ns : List Bool} : Rc K (rAny K) [.lst (ns.map D.bl)] (.bl (ns.any id)) := fun G H vs s r Q t => by
  cases r with
  | cons r r' =>
    cases r'
    cases r with
    | lst e q => exact ⟨_, ns, rfl, by rw [← q.bls]; exact SqL.of (s _ _ e), t.same s (.bl _)⟩
theorem Reps.cut {G : Hp} {vs : List V} {xs : List D} (r : Reps K G vs xs) (lo hi : Option Int) : Reps K G (cutV vs lo hi) ((xs.drop (HT.sIx xs.length 0 lo)).take (HT.sIx xs.length xs.length hi - HT.sIx xs.length 0 lo)) := by
  unfold cutV
  rw [r.len]
  exact (r.drop _).take _
theorem rs_lst {xs : List D} {lo hi : Option Int} : Rs K (rSlG K) (.lst xs) lo hi (.lst ((xs.drop (HT.sIx xs.length 0 lo)).take (HT.sIx xs.length xs.length hi - HT.sIx xs.length 0 lo))) := fun G H v s r Q t => by
  cases r with
  | lst e q => exact .inl ⟨_, _, rfl, SqL.of (s _ _ e), t.lst s (q.cut lo hi)⟩
theorem rs_str {x : Str} {lo hi : Option Int} (h : x.length ≤ 1000000) : Rs K (rSlG K) (.str x) lo hi (.str (cutS x lo hi)) := fun G H v s r Q t => by
  cases r
  exact .inr (.inl ⟨x, rfl, sz_of h, t.same s (.str _)⟩)
theorem whole_cut {xs : List D} {lo hi : Option Int} (h : HT.sIx xs.length 0 lo = 0 ∧ HT.sIx xs.length xs.length hi = xs.length) : (xs.drop (HT.sIx xs.length 0 lo)).take (HT.sIx xs.length xs.length hi - HT.sIx xs.length 0 lo) = xs := by
  rw [h.1, h.2, List.drop_zero, Nat.sub_zero, List.take_of_length_le (Nat.le_refl _)]
theorem rs_tup {xs : List D} {lo hi : Option Int} : Rs K (rSlG K) (.tup xs) lo hi (.tup ((xs.drop (HT.sIx xs.length 0 lo)).take (HT.sIx xs.length xs.length hi - HT.sIx xs.length 0 lo))) := fun G H v s r Q t => by
  cases r with
  | @tup a vs _ e q =>
    refine .inr (.inr ⟨_, vs, rfl, ex_t s e, fun h => ?_, fun h => t.tup s (q.cut lo hi)⟩)
    rw [q.len] at h
    rw [whole_cut h] at t
    exact t.same s (.tup e q)
theorem rb_addT {x y : List D} (h : x.length + y.length ≤ 1000000) : Rb K (rAddG K) (.tup x) (.tup y) (.tup (x ++ y)) := fun G H v w s r1 r2 Q t => by
  cases r1 with
  | @tup a vs _ e1 q1 => cases r2 with
    | @tup b ws _ e2 q2 =>
      refine .inr (.inr (.inr ⟨_, _, vs, ws, rfl, rfl, ex_t s e1, ex_t s e2, by rw [q1.len, q2.len]; exact sz_of h, fun e => ?_, fun _ e => ?_, fun _ _ => t.tup s (q1.app q2)⟩))
      · subst e; cases q1; exact t.same s (.tup e2 q2)
      · subst e; cases q2; rw [List.append_nil] at t; exact t.same s (.tup e1 q1)
theorem et_truG {te : TE} {x : D} (h : Ee c te ds x) (hx : truOk x) : Et c (tTruG c.K te) ds (truD x) := et_tru h hx
end
end Dl

/-! Dx: defs by name, their calls; own errors without arguments. -/
namespace Dl
open PySem L2 Evl PySem.Spec PyProof.Rows
/-- a def of the text's top -/
structure Has (K : PySem.W.Frag) (mg : Str → Option Value) (x : Str) (st : Stmt) (ps : List Str) : Prop where
  ex : ∃ f fd, Fun K x x st f fd ∧ mg x = some (.ref f) ∧ Binds K fd ps []
/-- a method of the class at C -/
structure HasM (K : PySem.W.Frag) (C : Addr) (x qual : Str) (st : Stmt) (ps : List Str) : Prop where
  ex : ∃ f fd, Fun K x qual st f fd ∧ Meth K C x f ∧ Binds K fd ps []
/-- .. that keeps its promise -/
structure Ok (P : Program) (w : World) (K : PySem.W.Frag) (mg : Str → Option Value) (base : Heap) (CX : CXT) (k : Nat) (x : Str) (ps : List Str) (sp : Sp) : Prop where
  ex : ∃ f fd, FnOk P w K mg base CX k f fd ps sp ∧ mg x = some (.ref f) ∧ PySem.W.keepIn K (.ref f) = true ∧ Binds K fd ps []
structure OkM (P : Program) (w : World) (K : PySem.W.Frag) (mg : Str → Option Value) (base : Heap) (CX : CXT) (k : Nat) (C : Addr) (x : Str) (ps : List Str) (sp : Sp) : Prop where
  ex : ∃ f fd, FnOk P w K mg base CX k f fd ps sp ∧ Meth K C x f ∧ Binds K fd ps []
section
variable {P : Program} {w : World} {K : PySem.W.Frag} {mg : Str → Option Value} {base : Heap} {x qual : Str} {st : Stmt} {ps N : List Str} {k : Nat} {C : Addr}
theorem Has.ok {sp : Sp} (h : Has K mg x st ps) (S : FnScope N ps (defScope st)) (len : ∀ vs H Q E, sp vs H Q E → vs.length = ps.length)
    (hbody : ∀ (f : Addr) (cdv : Value) (A : Around) (outer : List Env) (s : Shared) (H : Hp) (vs : List V) (Q : VK) (E : XK), Room k (A.deeper (envOfC x (defScope st) s.heap.objs.size f cdv)) → sp vs H Q E →
      ∃ t, PSs (cxOf CX0 P w K mg base N x (defScope st) f cdv A outer s H E).nox (defBody st) t ∧ t { nx := fun _ H' => Q .non H', rt := Q } (L2.start N vs) H) : Ok P w K mg base CX0 (k + 1) x ps sp := by
  obtain ⟨f, fd, F, m, b⟩ := h.ex
  exact ⟨f, fd, F.ok S len (hbody f), m, F.kp, b⟩
theorem Has.okX {sp : Sp} (h : Has K mg x st ps) (S : FnScope N ps (defScope st)) (len : ∀ vs H Q E, sp vs H Q E → vs.length = ps.length)
    (hbody : ∀ (f : Addr) (cdv : Value) (A : Around) (outer : List Env) (s : Shared) (H : Hp) (vs : List V) (Q : VK) (E : XK), Room k (A.deeper (envOfC x (defScope st) s.heap.objs.size f cdv)) → sp vs H Q E →
      ∃ t, PSs (cxOf (L2.CX P w) P w K mg base N x (defScope st) f cdv A outer s H E) (defBody st) t ∧ t { nx := fun _ H' => Q .non H', rt := Q } (L2.start N vs) H) : Ok P w K mg base (L2.CX P w) (k + 1) x ps sp := by
  obtain ⟨f, fd, F, m, b⟩ := h.ex
  exact ⟨f, fd, F.okX S len (hbody f), m, F.kp, b⟩
theorem HasM.ok {sp : Sp} (h : HasM K C x qual st ps) (S : FnScope N ps (defScope st)) (len : ∀ vs H Q E, sp vs H Q E → vs.length = ps.length)
    (hbody : ∀ (f : Addr) (cdv : Value) (A : Around) (outer : List Env) (s : Shared) (H : Hp) (vs : List V) (Q : VK) (E : XK), Room k (A.deeper (envOfC qual (defScope st) s.heap.objs.size f cdv)) → sp vs H Q E →
      ∃ t, PSs (cxOf CX0 P w K mg base N qual (defScope st) f cdv A outer s H E).nox (defBody st) t ∧ t { nx := fun _ H' => Q .non H', rt := Q } (L2.start N vs) H) : OkM P w K mg base CX0 (k + 1) C x ps sp := by
  obtain ⟨f, fd, F, m, b⟩ := h.ex
  exact ⟨f, fd, F.ok S len (hbody f), m, b⟩
theorem HasM.okX {sp : Sp} (h : HasM K C x qual st ps) (S : FnScope N ps (defScope st)) (len : ∀ vs H Q E, sp vs H Q E → vs.length = ps.length)
    (hbody : ∀ (f : Addr) (cdv : Value) (A : Around) (outer : List Env) (s : Shared) (H : Hp) (vs : List V) (Q : VK) (E : XK), Room k (A.deeper (envOfC qual (defScope st) s.heap.objs.size f cdv)) → sp vs H Q E →
      ∃ t, PSs (cxOf (L2.CX P w) P w K mg base N qual (defScope st) f cdv A outer s H E) (defBody st) t ∧ t { nx := fun _ H' => Q .non H', rt := Q } (L2.start N vs) H) : OkM P w K mg base (L2.CX P w) (k + 1) C x ps sp := by
  obtain ⟨f, fd, F, m, b⟩ := h.ex
  exact ⟨f, fd, F.okX S len (hbody f), m, b⟩
end
section
variable {X : Cx} {CX : CXT} {k : Nat} {C : Addr} {x m : Str} {ps : List Str} {sp : Sp} {E : XK} {p pos apos : Pos} {e o : Expr} {es : List Expr} {t : TA} {ta : TE}
theorem pe_callH (h : Ok X.prog X.w X.K X.mg X.base CX k x ps sp) (hr : Room k X.A) (hg : Gl X x) (hx : Passes CX X E) (ha : PA X (e :: es) t) (hdb : (x == ("__debug__" : Str)) = false := by decide)
    (he : starEach (e :: es) X.env = (false, eval e X.env) :: starEach es X.env := by rfl) (hpl : (backTo pos (starEach es X.env)).any (·.1) = false := by rfl) : PE X (.Call (.Name x p) (e :: es) [] pos) (tCall sp [] E t) := by
  obtain ⟨f, fd, G, hm, kp, b⟩ := h.ex
  exact pe_call G hr hg hm kp b .nil hx ha hdb he hpl
theorem pe_callMH {pl : Sem Bool} (ho : PE X o ta) (c : Cls X.K C) (h : OkM X.prog X.w X.K X.mg X.base CX k C m ps sp) (hr : Room k X.A) (hx : Passes CX X E) (ha : PA X (e :: es) t)
    (hst : starEach (e :: es) X.env = (false, eval e X.env) :: starEach es X.env := by rfl) (hpl : (backTo pos (starEach es X.env)).any (·.1) = false := by rfl)
    (ht : eval (.Call (.Attribute o m apos) (e :: es) [] pos) X.env = (do
      let ov ← eval o X.env
      standAt apos.atName
      let (f, first) ← holding [ov] (getMethod ov m pl)
      callWith pos f first (backTo pos (starEach (e :: es) X.env)) (backToKw pos (keywordEach [] X.env))) := by rfl) : PE X (.Call (.Attribute o m apos) (e :: es) [] pos) (tMeth C m sp [] E ta t) := by
  obtain ⟨f, fd, G, hm, b⟩ := h.ex
  exact pe_meth ho c hm G hr b .nil hx ha hst hpl ht
/-- X(), X an own exception class without own __init__ -/
theorem pmk_own0 {C : Addr} {bmB : List Value} {B newId initId : String} {x : Str} {p pos : Pos} (F : ExcBaseFacts B newId initId bmB) (q : PySem.W.excIn X.K C bmB newId = true) (gC : X.mg x = some (.ref C))
    (kC : PySem.W.keepIn X.K (.ref C) = true) (r : Raises X (.ref C)) (hg : Gl X x) (hdb : (x == ("__debug__" : Str)) = false := by decide) :
    PMk X (.Call (.Name x p) [] [] pos) (fun _ H Q => Q (.ref C) none H) := by
  intro pins s σ H Q I h
  refine wpAny_Call_Name_kw (ld_glob I hg gC ?_ hdb)
  refine PySem.W.callWith_K0 I.kIn kC ?_
  show wpAny _ _ (call (.ref C) []) _ _ _
  obtain ⟨bm, N, nm, qn, bs, hdct, sn, sub, ab, col, dd, k0, k1, k2, k3, k5, mN, hC, hN, hni, T⟩ := exc_obj I.kIn q
  refine wpAny_call_exc_subT F T hC hN hni (fun h' e hm => ?_) (Nat.zero_le _)
  exact mk_of I hm r h (I.hok.gone hm.new)
end
/-- an own error class over ValueError without own __init__ -/
structure Err (K : PySem.W.Frag) (mg : Str → Option Value) (x : Str) (C : Addr) : Prop where
  g : mg x = some (.ref C)
  q : PySem.W.excIn K C [.type "ValueError", .type "Exception", .type "BaseException", .type "object"] "ValueError.__new__" = true
  kp : PySem.W.keepIn K (.ref C) = true
  b : PySem.W.subIn K (.ref C) (.type "BaseException") = some true
  t : PySem.W.typeIn K (.ref C) = some (.type "type")
/-- raise X() -/
def tRaise0 (W : WX) (C : Addr) : TS := fun _ σ H => (fun _ H Q => Q (.ref C) none H : L2.St → Hp → XK → Prop) σ H fun cls d H' => W cls d σ H'
theorem ps_raise0 {X : Cx} {W : WX} {C : Addr} {x : Str} {p pos pos2 : Pos} (hc : X.calm = true) (tk : Takes X W) (e : Err X.K X.mg x C) (hg : Gl X x) (hdb : (x == ("__debug__" : Str)) = false := by decide) :
    PS X (.Raise (some (.Call (.Name x p) [] [] pos)) none pos2) (tRaise0 W C) := ps_raise hc tk (pmk_own0 PySem.F.excBase_ValueError e.q e.g e.kp (raises_own e.b e.t) hg hdb)
theorem st_raise0 {c : Ctx} {n : DE} {ds : Fm} {C : Addr} (h : n.er (.ref C) none) : St c (tRaise0 (fun cls d _ H => c.X cls d H) C) n ds := fun G H σ a E l => l.er G H (.ref C) none Exs.refl a.sub h
end Dl

/-! Db: bits as lists of Bool; codes, rows, numbers: plain mathematics. -/
namespace Dl
open PySem L2 Evl

/-! ### bits as texts -/
def sg (b : Bool) : Nat := if b then 49 else 48
def bs (l : List Bool) : Str := ⟨(l.map sg).toArray⟩
theorem bs_cps (l : List Bool) : (bs l).cps.toList = l.map sg := by simp [bs]
theorem bs_len (l : List Bool) : (bs l).length = l.length := by simp [bs, Str.length]
theorem sg_inj {a b : Bool} (h : sg a = sg b) : a = b := by cases a <;> cases b <;> simp [sg] at h ⊢
theorem map_sg_inj : ∀ {a b : List Bool}, a.map sg = b.map sg → a = b
  | [], [], _ => rfl
  | [], _ :: _, h => by simp at h
  | _ :: _, [], h => by simp at h
  | x :: a, y :: b, h => by
    simp only [List.map_cons, List.cons.injEq] at h
    rw [sg_inj h.1, map_sg_inj h.2]
theorem str_ext {x y : Str} (h : x.cps.toList = y.cps.toList) : x = y := by
  cases x with | mk a => cases y with | mk b =>
    have : a = b := by simpa using congrArg List.toArray h
    rw [this]
theorem bs_inj {a b : List Bool} (h : bs a = bs b) : a = b := map_sg_inj (by rw [← bs_cps, ← bs_cps, h])
theorem bs_eq (a b : List Bool) : decide (bs a = bs b) = decide (a = b) := by
  by_cases h : a = b
  · subst h; simp
  · rw [decide_eq_false h, decide_eq_false (fun z => h (bs_inj z))]
theorem str_app (x y : Str) : (x ++ y).cps.toList = x.cps.toList ++ y.cps.toList := by
  show (Str.cps (Append.append x y)).toList = _
  first
    | rfl
    | (cases x; cases y; simp [Append.append, Str.append])
theorem bs_app (a b : List Bool) : bs a ++ bs b = bs (a ++ b) := str_ext (by rw [str_app, bs_cps, bs_cps, bs_cps, List.map_append])
theorem bs_nil : ("" : Str) = bs [] := by decide
theorem bs_zero : ("0" : Str) = bs [false] := by decide
theorem bs_one : ("1" : Str) = bs [true] := by decide
def rep (l : List Bool) : Nat → List Bool
  | 0 => []
  | n + 1 => l ++ rep l n
theorem rep_len (l : List Bool) : ∀ n, (rep l n).length = n * l.length
  | 0 => by simp [rep]
  | n + 1 => by rw [rep, List.length_append, rep_len l n, Nat.succ_mul, Nat.add_comm]
theorem rep_add (l : List Bool) : ∀ m n, rep l (m + n) = rep l m ++ rep l n
  | 0, n => by simp [rep]
  | m + 1, n => by rw [Nat.succ_add, rep, rep, rep_add l m n, List.append_assoc]
theorem foldl_reps (a : Array Nat) : ∀ (n : Nat) (acc : Array Nat), ((List.replicate n a).foldl (· ++ ·) acc).toList = acc.toList ++ (List.replicate n a.toList).flatten
  | 0, acc => by simp
  | n + 1, acc => by
    rw [List.replicate_succ, List.foldl_cons, foldl_reps a n, List.replicate_succ, List.flatten_cons]
    simp
theorem flat_rep (l : List Bool) : ∀ n : Nat, (List.replicate n (l.map sg)).flatten = (rep l n).map sg
  | 0 => rfl
  | n + 1 => by rw [List.replicate_succ, List.flatten_cons, flat_rep l n, rep, List.map_append]
theorem bs_mul (l : List Bool) (n : Nat) : Txt.mul (bs l) (n : Int) = bs (rep l n) := by
  apply str_ext
  unfold Txt.mul
  by_cases h0 : n = 0
  · subst h0; rw [if_pos (by decide)]; rfl
  · rw [if_neg (by omega)]
    by_cases h1 : ((n : Int) == 1 || (bs l).length == 0) = true
    · rw [if_pos h1, bs_cps, bs_cps]
      rcases Bool.or_eq_true_iff.mp h1 with h | h
      · have : n = 1 := by have := beq_iff_eq.mp h; omega
        subst this
        simp [rep]
      · have : l = [] := by have := beq_iff_eq.mp h; rw [bs_len] at this; exact List.length_eq_zero_iff.mp this
        subst this
        have : rep [] n = [] := List.length_eq_zero_iff.mp (by rw [rep_len]; simp)
        rw [this]
    · rw [if_neg h1]
      show ((List.replicate n (bs l).cps).foldl (· ++ ·) #[]).toList = _
      rw [foldl_reps, bs_cps, bs_cps, flat_rep]
      rfl
theorem bs_mulOk (l : List Bool) (n : Nat) (h : n * l.length ≤ 1000000) (hn : n ≤ 1000000000) : MulOk (bs l) (n : Int) := by
  have hz : sizeLine = 16777216 := sizeLine_eq
  refine ⟨?_, fun h1 h2 => ?_, fun h1 h2 => ?_⟩
  · simp; omega
  · rw [bs_len]
    have : (l.length : Int) ≤ 1000000 := by
      have : 1 ≤ n := by omega
      have := Nat.le_mul_of_pos_left l.length this
      omega
    have : (1000000 : Int) ≤ (2 ^ 63 - 1) / (n : Int) := by
      rw [Int.le_ediv_iff_mul_le (by omega)]
      omega
    omega
  · unfold Builtin.Str.tooLong
    rw [bs_len]
    simp only [Int.toNat_natCast]
    have e : l.length * n ≤ sizeLine := by rw [hz, Nat.mul_comm]; omega
    exact decide_eq_false (Nat.not_lt.mpr e)
theorem prefix_iff {a b : List Bool} : b.isPrefixOf a = true ↔ a.take b.length = b := by
  rw [List.isPrefixOf_iff_prefix]
  constructor
  · intro h; exact (List.prefix_iff_eq_take.mp h).symm
  · intro h; exact List.prefix_iff_eq_take.mpr h.symm
theorem bs_starts (a b : List Bool) : Txt.startswith (bs a) (bs b) = b.isPrefixOf a := by
  unfold Txt.startswith
  rw [bs_len, bs_len, StrLaws.subAt_eq, bs_cps, bs_cps, bs_len, List.drop_zero, ← List.map_take]
  have h : ((a.take b.length).map sg == b.map sg) = decide (a.take b.length = b) := by
    by_cases e : a.take b.length = b
    · rw [e]; simp
    · rw [decide_eq_false e]
      exact beq_eq_false_iff_ne.mpr fun z => e (map_sg_inj z)
  rw [h, Bool.eq_iff_iff, prefix_iff, Bool.and_eq_true, decide_eq_true_eq, decide_eq_true_eq]
  constructor
  · exact fun z => z.2
  · intro z
    refine ⟨?_, z⟩
    have := congrArg List.length z
    rw [List.length_take] at this
    omega
theorem bs_cutS (l : List Bool) (lo hi : Option Int) : cutS (bs l) lo hi = bs ((l.drop (HT.sIx l.length 0 lo)).take (HT.sIx l.length l.length hi - HT.sIx l.length 0 lo)) := by
  apply str_ext
  unfold cutS
  rw [bs_len, bs_cps, bs_cps, List.map_take, List.map_drop]
theorem bs_from (l : List Bool) (k : Nat) : cutS (bs l) (some (k : Int)) none = bs (l.drop k) := by
  rw [bs_cutS, HT.sIx_nat, HT.sIx_none]
  congr 1
  by_cases h : k ≤ l.length
  · rw [Nat.min_eq_left h, List.take_of_length_le (by rw [List.length_drop]; omega)]
  · rw [Nat.min_eq_right (by omega), List.drop_eq_nil_of_le (Nat.le_refl _), List.drop_eq_nil_of_le (by omega)]; simp
theorem bs_upto (l : List Bool) (k : Nat) : cutS (bs l) none (some (k : Int)) = bs (l.take k) := by
  rw [bs_cutS, HT.sIx_nat, HT.sIx_none, List.drop_zero, Nat.sub_zero]
  congr 1
  by_cases h : k ≤ l.length
  · rw [Nat.min_eq_left h]
  · rw [Nat.min_eq_right (by omega), List.take_of_length_le (Nat.le_refl _), List.take_of_length_le (by omega)]
theorem bs_mid (l : List Bool) (j k : Nat) (h : j ≤ k) : cutS (bs l) (some (j : Int)) (some (k : Int)) = bs ((l.drop j).take (k - j)) := by
  rw [bs_cutS, HT.sIx_nat, HT.sIx_nat]
  congr 1
  by_cases h1 : j ≤ l.length
  · rw [Nat.min_eq_left h1]
    by_cases h2 : k ≤ l.length
    · rw [Nat.min_eq_left h2]
    · rw [Nat.min_eq_right (by omega), List.take_of_length_le (by rw [List.length_drop]; omega), List.take_of_length_le (by rw [List.length_drop]; omega)]
  · have e : min j l.length = l.length := Nat.min_eq_right (by omega)
    rw [e, List.drop_eq_nil_of_le (Nat.le_refl _), List.drop_eq_nil_of_le (by omega : l.length ≤ j)]; simp

/-! ### codes -/
structure CodeM where
  rows : List (List Bool × Nat)
  again : List Bool
  stop : List Bool
  k : Nat
  d : Nat
structure Wf (c : CodeM) : Prop where
  rl : c.rows.length ≤ 6
  rb : ∀ r ∈ c.rows, 1 ≤ r.1.length ∧ r.1.length ≤ 8 ∧ r.2 ≤ 8
  al : 1 ≤ c.again.length
  au : c.again.length ≤ 4
  sl : c.stop.length ≤ 4
  kl : c.k ≤ 8
  dl : c.d ≤ 3
namespace CodeM
def beg (c : CodeM) : Nat := (c.rows.map fun r => 2 ^ r.2).sum
def row (c : CodeM) (r : Nat) : List Bool × Nat := match c.rows[r]? with
  | some x => x
  | none => (rep c.again (r - c.rows.length) ++ c.stop, c.k + c.d * (r - c.rows.length))
def head (c : CodeM) (r : Nat) : List Bool := (c.row r).1
def kk (c : CodeM) (r : Nat) : Nat := (c.row r).2
def first (c : CodeM) : Nat → Nat
  | 0 => 0
  | r + 1 => c.first r + 2 ^ c.kk r
def before (c : CodeM) (i : Nat) : Nat := if c.d = 0 then i * 2 ^ c.k else 2 ^ c.k * (2 ^ (c.d * i) - 1) / (2 ^ c.d - 1)
variable {c : CodeM}
theorem row_lt {r : Nat} (h : r < c.rows.length) : c.row r = c.rows[r] := by
  unfold row; rw [List.getElem?_eq_getElem h]
theorem row_ge {r : Nat} (h : c.rows.length ≤ r) : c.row r = (rep c.again (r - c.rows.length) ++ c.stop, c.k + c.d * (r - c.rows.length)) := by
  unfold row; rw [List.getElem?_eq_none h]
theorem row_tail (i : Nat) : c.row (c.rows.length + i) = (rep c.again i ++ c.stop, c.k + c.d * i) := by
  rw [row_ge (by omega), Nat.add_sub_cancel_left]
theorem first_succ (r : Nat) : c.first (r + 1) = c.first r + 2 ^ c.kk r := rfl
theorem first_lt (r : Nat) : c.first r < c.first (r + 1) := by
  have := Nat.pow_pos (n := c.kk r) (show 0 < 2 by decide)
  rw [first_succ]; omega
theorem first_mono {r s : Nat} (h : r ≤ s) : c.first r ≤ c.first s := by
  induction h with
  | refl => exact Nat.le_refl _
  | step _ ih => exact Nat.le_trans ih (Nat.le_of_lt (first_lt _))
theorem first_smono {r s : Nat} (h : r < s) : c.first r < c.first s := Nat.lt_of_lt_of_le (first_lt r) (first_mono h)
theorem le_first : ∀ r, r ≤ c.first r
  | 0 => Nat.zero_le _
  | r + 1 => Nat.lt_of_le_of_lt (le_first r) (first_lt r)
theorem first_rows {r : Nat} (h : r ≤ c.rows.length) : c.first r = ((c.rows.take r).map fun x => 2 ^ x.2).sum := by
  induction r with
  | zero => rfl
  | succ r ih =>
    rw [first_succ, ih (by omega), kk, row_lt h]
    have e : c.rows.take (r + 1) = c.rows.take r ++ [c.rows[r]] := by rw [List.take_succ, List.getElem?_eq_getElem h]; rfl
    rw [e, List.map_append, List.sum_append]
    simp only [List.map_cons, List.map_nil, List.sum_cons, List.sum_nil, Nat.add_zero]
theorem first_beg : c.first c.rows.length = c.beg := by
  rw [first_rows (Nat.le_refl _), List.take_of_length_le (Nat.le_refl _)]; rfl
theorem pow_ge_one (n : Nat) : 1 ≤ 2 ^ n := Nat.pow_pos (by decide)
theorem before_succ (i : Nat) : c.before (i + 1) = c.before i + 2 ^ (c.k + c.d * i) := by
  unfold before
  by_cases h : c.d = 0
  · rw [if_pos h, if_pos h, h]; simp [Nat.succ_mul]
  · rw [if_neg h, if_neg h]
    have hd : 1 < 2 ^ c.d := Nat.one_lt_two_pow h
    -- by a closed sum S with (2 ^ d - 1) * S i = 2 ^ (d * i) - 1
    have key : ∀ i, ∃ S, 2 ^ (c.d * i) - 1 = (2 ^ c.d - 1) * S ∧ 2 ^ (c.d * (i + 1)) - 1 = (2 ^ c.d - 1) * (S + 2 ^ (c.d * i)) := by
      intro i
      have step : ∀ j S, 2 ^ (c.d * j) - 1 = (2 ^ c.d - 1) * S → 2 ^ (c.d * (j + 1)) - 1 = (2 ^ c.d - 1) * (S + 2 ^ (c.d * j)) := fun j S e => by
        have e1 : 2 ^ (c.d * (j + 1)) = 2 ^ c.d * 2 ^ (c.d * j) := by rw [Nat.mul_succ, Nat.pow_add, Nat.mul_comm]
        have p1 := pow_ge_one (c.d * j)
        have e2 : (2 ^ c.d - 1) * 2 ^ (c.d * j) = 2 ^ c.d * 2 ^ (c.d * j) - 2 ^ (c.d * j) := by rw [Nat.sub_mul, Nat.one_mul]
        have p2 : 2 ^ (c.d * j) ≤ 2 ^ c.d * 2 ^ (c.d * j) := Nat.le_mul_of_pos_left _ (by omega)
        have e3 : (2 ^ c.d - 1) * (S + 2 ^ (c.d * j)) = (2 ^ c.d - 1) * S + (2 ^ c.d - 1) * 2 ^ (c.d * j) := Nat.mul_add _ _ _
        omega
      induction i with
      | zero => exact ⟨0, by simp, step 0 0 (by simp)⟩
      | succ i ih =>
        obtain ⟨S, _, e⟩ := ih
        exact ⟨S + 2 ^ (c.d * i), e, step _ _ e⟩
    obtain ⟨S, e1, e2⟩ := key i
    have hp : 0 < 2 ^ c.d - 1 := by omega
    rw [e1, e2, Nat.mul_left_comm, Nat.mul_div_cancel_left _ hp, Nat.mul_left_comm, Nat.mul_div_cancel_left _ hp, Nat.mul_add, ← Nat.pow_add]
theorem before_zero : c.before 0 = 0 := by unfold before; split <;> simp
theorem first_tail (i : Nat) : c.first (c.rows.length + i) = c.beg + c.before i := by
  induction i with
  | zero => rw [Nat.add_zero, first_beg, before_zero, Nat.add_zero]
  | succ i ih =>
    rw [← Nat.add_assoc, first_succ, ih, before_succ, kk, row_tail]; simp only []; omega
/-- the row of a number -/
theorem row_uniq {n r s : Nat} (h1 : c.first r ≤ n) (h2 : n < c.first (r + 1)) (h3 : c.first s ≤ n) (h4 : n < c.first (s + 1)) : r = s := by
  rcases Nat.lt_trichotomy r s with h | h | h
  · have := first_mono (c := c) (show r + 1 ≤ s from h); omega
  · exact h
  · have := first_mono (c := c) (show s + 1 ≤ r from h); omega
def rowFrom (c : CodeM) (n : Nat) : Nat → Nat → Nat
  | 0, r => r
  | f + 1, r => if n < c.first (r + 1) then r else rowFrom c n f (r + 1)
def rowOf (c : CodeM) (n : Nat) : Nat := rowFrom c n n 0
theorem rowFrom_ok (n : Nat) : ∀ f r, c.first r ≤ n → n < c.first (r + f + 1) → c.first (rowFrom c n f r) ≤ n ∧ n < c.first (rowFrom c n f r + 1)
  | 0, r, h1, h2 => ⟨h1, h2⟩
  | f + 1, r, h1, h2 => by
    unfold rowFrom
    split
    · exact ⟨h1, by assumption⟩
    · exact rowFrom_ok n f (r + 1) (by omega) (by rw [show r + 1 + f + 1 = r + (f + 1) + 1 by omega]; exact h2)
theorem rowOf_ok (n : Nat) : c.first (c.rowOf n) ≤ n ∧ n < c.first (c.rowOf n + 1) := rowFrom_ok n n 0 (Nat.zero_le _) (by
  have := le_first (c := c) (0 + n + 1); omega)
theorem rowOf_eq {n r : Nat} (h1 : c.first r ≤ n) (h2 : n < c.first (r + 1)) : c.rowOf n = r := row_uniq (rowOf_ok n).1 (rowOf_ok n).2 h1 h2
/-- a number as k bits, the greatest place first -/
def plc (v : Nat) : Nat → List Bool
  | 0 => []
  | k + 1 => plc (v / 2) k ++ [v % 2 == 1]
theorem plc_len (v : Nat) (k : Nat) : (plc v k).length = k := by
  induction k generalizing v with
  | zero => rfl
  | succ k ih => simp [plc, ih]
theorem snoc_ind {P : List Bool → Prop} (h0 : P []) (hs : ∀ l b, P l → P (l ++ [b])) (l : List Bool) : P l := by
  have h : ∀ l : List Bool, P l.reverse := fun l => by
    induction l with
    | nil => exact h0
    | cons b l ih => rw [List.reverse_cons]; exact hs _ _ ih
  have := h l.reverse
  rwa [List.reverse_reverse] at this
def num (l : List Bool) : Nat := l.foldl (fun t b => 2 * t + (if b then 1 else 0)) 0
theorem num_snoc (l : List Bool) (b : Bool) : num (l ++ [b]) = 2 * num l + (if b then 1 else 0) := by simp [num, List.foldl_append]
theorem num_plc (v k : Nat) : num (plc v k) = v % 2 ^ k := by
  induction k generalizing v with
  | zero => simp [plc, num, Nat.mod_one]
  | succ k ih =>
    rw [plc, num_snoc, ih, Nat.pow_succ, Nat.mul_comm (2 ^ k) 2, Nat.mod_mul]
    have : v % 2 = 0 ∨ v % 2 = 1 := by omega
    rcases this with h | h <;> simp [h] <;> omega
theorem num_lt (l : List Bool) : num l < 2 ^ l.length := by
  induction l using snoc_ind with
  | h0 => simp [num]
  | hs l b ih =>
    rw [num_snoc, List.length_append, List.length_singleton, Nat.pow_succ]
    split <;> omega
theorem plc_num (l : List Bool) : plc (num l) l.length = l := by
  induction l using snoc_ind with
  | h0 => rfl
  | hs l b ih =>
    rw [num_snoc, List.length_append, List.length_singleton, plc]
    have h1 : (2 * num l + (if b then 1 else 0)) / 2 = num l := by cases b <;> simp <;> omega
    have h2 : ((2 * num l + (if b then 1 else 0)) % 2 == 1) = b := by cases b <;> simp <;> omega
    rw [h1, h2, ih]
def bits (c : CodeM) (n : Nat) : List Bool := c.head (c.rowOf n) ++ plc (n - c.first (c.rowOf n)) (c.kk (c.rowOf n))
def size (c : CodeM) (n : Nat) : Nat := (c.head (c.rowOf n)).length + c.kk (c.rowOf n)
theorem bits_len (n : Nat) : (c.bits n).length = c.size n := by unfold bits size; rw [List.length_append, plc_len]
end CodeM
@[reducible] def rowD (r : List Bool × Nat) : D := .tup [.str (bs r.1), .int (r.2 : Nat)]
@[reducible] def rowsD (c : CodeM) : D := .tup (c.rows.map rowD)
@[reducible] def tailD (c : CodeM) : D := .tup [.str (bs c.again), .str (bs c.stop), .int (c.k : Nat), .int (c.d : Nat)]
@[reducible] def codeD (C : Addr) (c : CodeM) : D := .obj C ["rows", "tail", "begin"] [rowsD c, tailD c, .int (c.beg : Nat)]
/-- what the law's own account is over: [rows, tail] -/
@[reducible] def partsD (c : CodeM) : D := .lst [rowsD c, tailD c]
end Dl

/-! Dn: operators on natural numbers and on bits; calls of several arguments. -/
namespace Dl
open PySem L2 Evl PySem.Spec PyProof.Rows
section
variable {K : PySem.W.Frag} {c : Ctx} {ds : Fm}
theorem cast_sub' {a b : Nat} (h : b ≤ a) : ((a : Nat) : Int) - ((b : Nat) : Int) = ((a - b : Nat) : Int) := by omega
theorem rb_addN {a b : Nat} : Rb K (rAddG K) (.int (a : Nat)) (.int (b : Nat)) (.int ((a + b : Nat) : Int)) := rb_addI
theorem rb_addN1 {a : Nat} : Rb K (rAddG K) (.int (a : Nat)) (.int 1) (.int ((a + 1 : Nat) : Int)) := rb_addI
theorem rb_addN2 {a : Nat} : Rb K (rAddG K) (.int (a : Nat)) (.int 2) (.int ((a + 2 : Nat) : Int)) := rb_addI
theorem rb_addN3 {a : Nat} : Rb K (rAddG K) (.int (a : Nat)) (.int 3) (.int ((a + 3 : Nat) : Int)) := rb_addI
theorem rb_subN {a b : Nat} (h : b ≤ a) : Rb K rSubG (.int (a : Nat)) (.int (b : Nat)) (.int ((a - b : Nat) : Int)) := by
  rw [← cast_sub' h]; exact rb_subI
theorem rb_subN1 {a : Nat} (h : 1 ≤ a) : Rb K rSubG (.int (a : Nat)) (.int 1) (.int ((a - 1 : Nat) : Int)) := by
  have e : ((a : Nat) : Int) - 1 = ((a - 1 : Nat) : Int) := by omega
  rw [← e]; exact rb_subI
theorem rb_subN8 {a : Nat} (h : a ≤ 8) : Rb K rSubG (.int 8) (.int (a : Nat)) (.int ((8 - a : Nat) : Int)) := by
  have e : (8 : Int) - ((a : Nat) : Int) = ((8 - a : Nat) : Int) := by omega
  rw [← e]; exact rb_subI
theorem rb_mulNL {a b : Nat} (h : a < 2 ^ 64) : Rb K (rMulG K) (.int (a : Nat)) (.int (b : Nat)) (.int ((a * b : Nat) : Int)) := by
  rw [Int.natCast_mul]; exact rb_mulL ⟨by omega, by omega⟩
theorem rb_mulNR {a b : Nat} (h : b < 2 ^ 64) : Rb K (rMulG K) (.int (a : Nat)) (.int (b : Nat)) (.int ((a * b : Nat) : Int)) := by
  rw [Int.natCast_mul]; exact rb_mulR ⟨by omega, by omega⟩
theorem rb_mulNW {a b : Nat} (m n : Nat) (ha : a < 2 ^ m) (hb : b < 2 ^ n) (h0 : 0 < m) (h1 : 0 < n) (h : m + n ≤ 900000) : Rb K (rMulG K) (.int (a : Nat)) (.int (b : Nat)) (.int ((a * b : Nat) : Int)) := by
  rw [Int.natCast_mul]; exact rb_mulW (wide_mul (by simpa using ha) (by simpa using hb) h0 h1 (by omega))
theorem rb_mul2N {b : Nat} : Rb K (rMulG K) (.int 2) (.int (b : Nat)) (.int ((2 * b : Nat) : Int)) := rb_mulL ⟨by decide, by decide⟩
theorem rb_modN {a b : Nat} (h : 0 < b) : Rb K rModG (.int (a : Nat)) (.int (b : Nat)) (.int ((a % b : Nat) : Int)) := rb_mod (by omega)
theorem rb_mod2N {a : Nat} : Rb K rModG (.int (a : Nat)) (.int 2) (.int ((a % 2 : Nat) : Int)) := rb_mod (by decide)
theorem rb_div2N {a : Nat} : Rb K rDivG (.int (a : Nat)) (.int 2) (.int ((a / 2 : Nat) : Int)) := rb_div ⟨by decide, by decide⟩
theorem rb_divN {a b : Nat} (h : 0 < b) (hb : b < 2 ^ 8000) : Rb K rDivG (.int (a : Nat)) (.int (b : Nat)) (.int ((a / b : Nat) : Int)) := rb_div (wide_div (b := 8000) (by omega) (by simpa using hb) (by decide) (by decide))
theorem rb_ltN {a b : Nat} : Rb K rLtG (.int (a : Nat)) (.int (b : Nat)) (.bl (decide (a < b))) := by
  have e : decide (((a : Nat) : Int) < ((b : Nat) : Int)) = decide (a < b) := by simp
  rw [← e]; exact rb_ltI
theorem rb_leN {a b : Nat} : Rb K rLeG (.int (a : Nat)) (.int (b : Nat)) (.bl (decide (a ≤ b))) := by
  have e : decide (((a : Nat) : Int) ≤ ((b : Nat) : Int)) = decide (a ≤ b) := by simp
  rw [← e]; exact rb_le
theorem rb_gtN {a b : Nat} : Rb K rGtG (.int (a : Nat)) (.int (b : Nat)) (.bl (decide (b < a))) := by
  have e : decide (((b : Nat) : Int) < ((a : Nat) : Int)) = decide (b < a) := by simp
  rw [← e]; exact rb_gt
theorem rb_geN {a b : Nat} : Rb K rGeG (.int (a : Nat)) (.int (b : Nat)) (.bl (decide (b ≤ a))) := by
  have e : decide (((b : Nat) : Int) ≤ ((a : Nat) : Int)) = decide (b ≤ a) := by simp
  rw [← e]; exact rb_ge
theorem rb_eqN {a b : Nat} : Rb K (Dl.rEqG K) (.int (a : Nat)) (.int (b : Nat)) (.bl (decide (a = b))) := by
  have e : decide (((a : Nat) : Int) = ((b : Nat) : Int)) = decide (a = b) := by simp [Int.natCast_inj]
  rw [← e]; exact rb_eqI
theorem rb_eqN0 {a : Nat} : Rb K (Dl.rEqG K) (.int (a : Nat)) (.int 0) (.bl (decide (a = 0))) := rb_eqN (b := 0)
theorem rb_neN {a b : Nat} : Rb K (rNeG K) (.int (a : Nat)) (.int (b : Nat)) (.bl (!decide (a = b))) := by
  have e : decide (((a : Nat) : Int) = ((b : Nat) : Int)) = decide (a = b) := by simp [Int.natCast_inj]
  rw [← e]; exact rb_neI
theorem rb_mulB {l : List Bool} {n : Nat} (h : n * l.length ≤ 1000000) (hn : n ≤ 1000000000) : Rb K (rMulG K) (.str (bs l)) (.int (n : Nat)) (.str (bs (rep l n))) := by
  rw [← bs_mul]; exact rb_mulS (bs_mulOk l n h hn)
theorem rb_addB {a b : List Bool} (h : a.length + b.length ≤ 1000000) : Rb K (rAddG K) (.str (bs a)) (.str (bs b)) (.str (bs (a ++ b))) := by
  rw [← bs_app]; exact rb_addS (by rw [bs_len, bs_len]; exact h)
theorem rb_eqB {a b : List Bool} : Rb K (Dl.rEqG K) (.str (bs a)) (.str (bs b)) (.bl (decide (a = b))) := by rw [← bs_eq]; exact rb_eqS
theorem rb_neB {a b : List Bool} : Rb K (rNeG K) (.str (bs a)) (.str (bs b)) (.bl (!decide (a = b))) := by rw [← bs_eq]; exact rb_neS
theorem rc_lenB {l : List Bool} (h : l.length ≤ 1000000) : Rc K (rLenG K) [.str (bs l)] (.int (l.length : Nat)) := by
  have := rc_lenS (K := K) (x := bs l) (by rw [bs_len]; exact h)
  rwa [bs_len] at this
theorem rs_fromB {l : List Bool} {k : Nat} (h : l.length ≤ 1000000) : Rs K (rSlG K) (.str (bs l)) (some (k : Int)) none (.str (bs (l.drop k))) := by
  rw [← bs_from]; exact rs_str (by rw [bs_len]; exact h)
theorem rs_uptoB {l : List Bool} {k : Nat} (h : l.length ≤ 1000000) : Rs K (rSlG K) (.str (bs l)) none (some (k : Int)) (.str (bs (l.take k))) := by
  rw [← bs_upto]; exact rs_str (by rw [bs_len]; exact h)
theorem rs_midB {l : List Bool} {j k : Nat} (hj : j ≤ k) (h : l.length ≤ 1000000) : Rs K (rSlG K) (.str (bs l)) (some (j : Int)) (some (k : Int)) (.str (bs ((l.drop j).take (k - j)))) := by
  rw [← bs_mid _ _ _ hj]; exact rs_str (by rw [bs_len]; exact h)
/-- x.startswith(y) -/
def rStarts : V → List V → Hp → VK → Prop := fun x xs H Q => ∃ a b, x = .str a ∧ xs = [.str b] ∧ Q (.bl (Txt.startswith a b)) H
theorem ee_startsB {te tb : TE} {a b : List Bool} (h1 : Ee c te ds (.str (bs a))) (h2 : Ee c tb ds (.str (bs b))) : Ee c (tM1 (fun x xs H Q => ∃ a b, x = .str a ∧ xs = [.str b] ∧ Q (.bl (Txt.startswith a b)) H) te tb) ds (.bl (b.isPrefixOf a)) :=
  ee_m1 h1 h2 fun G H v vs s r1 r2 Q t => by
    cases r1
    cases r2 with
    | cons r2 r3 =>
      cases r3; cases r2
      exact ⟨_, _, rfl, rfl, by rw [bs_starts]; exact t.same s (.bl _)⟩
theorem rs_uptoT {xs : List D} {k : Nat} : Rs K (rSlG K) (.tup xs) none (some (k : Int)) (.tup (xs.take k)) := by
  have h := rs_tup (K := K) (xs := xs) (lo := none) (hi := some (k : Int))
  rw [HT.sIx_nat, HT.sIx_none, List.drop_zero, Nat.sub_zero] at h
  by_cases hk : k ≤ xs.length
  · rwa [Nat.min_eq_left hk] at h
  · rw [Nat.min_eq_right (by omega), List.take_of_length_le (Nat.le_refl _)] at h
    rwa [List.take_of_length_le (by omega)]
theorem rc_lenM {α : Type} {f : α → D} {xs : List α} : Rc K (rLenG K) [.tup (xs.map f)] (.int (xs.length : Nat)) := by
  have := rc_lenT (K := K) (xs := xs.map f)
  rwa [List.length_map] at this
theorem rc_lenML {α : Type} {f : α → D} {xs : List α} : Rc K (rLenG K) [.lst (xs.map f)] (.int (xs.length : Nat)) := by
  have := rc_lenL (K := K) (xs := xs.map f)
  rwa [List.length_map] at this
theorem sum_cast {α : Type} (f : α → Nat) : ∀ ys : List α, (ys.map fun y => ((f y : Nat) : Int)).sum = (((ys.map f).sum : Nat) : Int)
  | [] => rfl
  | y :: ys => by simp only [List.map_cons, List.sum_cons, sum_cast f ys]; omega
theorem rc_sumN {α : Type} {f : α → Nat} {ys : List α} : Rc K (rSum K) [.lst (ys.map fun y => .int ((f y : Nat) : Int))] (.int (((ys.map f).sum : Nat) : Int)) := by
  have := rc_sum (K := K) (ns := ys.map fun y => ((f y : Nat) : Int))
  rw [List.map_map, sum_cast] at this
  exact this
theorem truB {l : List Bool} : truD (.str (bs l)) = !l.isEmpty := by
  show (((bs l).length : Int) != 0) = _
  rw [bs_len]
  cases l <;> simp <;> omega
theorem truOkB {l : List Bool} (h : l.length ≤ 1000000) : truOk (.str (bs l)) := by show (bs l).length ≤ 1000000; rw [bs_len]; exact h
theorem atI_map {α : Type} {f : α → D} {xs : List α} {j : Nat} {x : α} (h : xs[j]? = some x) : atI (xs.map f) (j : Int) = some (f x) := atI_nat (by rw [List.getElem?_map, h]; rfl)
end
theorem st_aug1 {c : Ctx} {ds : Fm} {n : DE} {i a : Nat} (hx : ds[i]? = some (.v (.int (a : Nat)))) (k : n.nx (ds.set i (.v (.int ((a + 1 : Nat) : Int))))) : St c (tAug i (tC (.int 1)) (ipI fun i j => i + j)) n ds :=
  st_aug (w := .int ((a + 1 : Nat) : Int)) hx ee_int (fun G H v u s r1 r2 Q t => by
    cases r1; cases r2
    exact ⟨_, _, rfl, rfl, t.same s (.int _)⟩) k
/-! ### calls of two, three arguments -/
@[reducible] def spA2 {α β : Type} (K : PySem.W.Frag) (args : α → β → List D) (pre : α → β → Prop) (res : α → β → Res) : Sp := spA K (fun p : α × β => args p.1 p.2) (fun p => pre p.1 p.2) (fun p => res p.1 p.2)
@[reducible] def spA3 {α β γ : Type} (K : PySem.W.Frag) (args : α → β → γ → List D) (pre : α → β → γ → Prop) (res : α → β → γ → Res) : Sp := spA K (fun p : α × β × γ => args p.1 p.2.1 p.2.2) (fun p => pre p.1 p.2.1 p.2.2) (fun p => res p.1 p.2.1 p.2.2)
section
variable {α β γ : Type} {c : Ctx} {ds : Fm} {ta : TA} {te : TE} {d : D} {x : α} {y : β} {z : γ} {E : XK} {xs : List D} {n : DE}
theorem ee_call2 {args : α → β → List D} {pre : α → β → Prop} {res : α → β → Res} (h : Ea c ta ds xs) (hx : xs = args x y) (hp : pre x y) (hr : res x y = .ok d) : Ee c (tCall (spA2 c.K args pre res) [] E ta) ds d :=
  ee_call (a := (x, y)) h hx hp hr
theorem ee_call3 {args : α → β → γ → List D} {pre : α → β → γ → Prop} {res : α → β → γ → Res} (h : Ea c ta ds xs) (hx : xs = args x y z) (hp : pre x y z) (hr : res x y z = .ok d) : Ee c (tCall (spA3 c.K args pre res) [] E ta) ds d :=
  ee_call (a := (x, y, z)) h hx hp hr
end
/-- a method's call: the instance is the first argument -/
theorem ee_meth {α : Type} {c : Ctx} {ds : Fm} {ta : TA} {te : TE} {d : D} {a : α} {args : α → List D} {pre : α → Prop} {res : α → Res} {C : Addr} {m : Str} {ns : List Str} {fs xs : List D} {E : XK} (h : Ee c te ds (.obj C ns fs)) (hm : m ∉ ns) (ha : Ea c ta ds xs) (hx : D.obj C ns fs :: xs = args a) (hp : pre a) (hr : res a = .ok d) :
    Ee c (tMeth C m (spA c.K args pre res) [] E te ta) ds d := fun G H σ at' Q q =>
  h G H σ at' _ fun v G1 H1 e1 s1 r1 => by
    cases r1 with
    | @obj a' C' dx fs' ns' ds' e en r =>
      subst en
      refine ⟨_, _, _, rfl, s1 _ _ e, ?_, ha G1 H1 σ (at'.go e1 s1) _ fun vs G2 H2 e2 s2 r2 => ?_⟩
      · cases hl : fs'.lookup m with
        | none => rfl
        | some w =>
          exfalso
          have : (m, w) ∈ fs' := by
            have := hl
            clear hl hm e r ha hx q at' h
            induction fs' with
            | nil => simp [List.lookup] at this
            | cons p fs' ih =>
              obtain ⟨g, u⟩ := p
              simp only [List.lookup] at this
              split at this
              · rename_i e; cases this; have := beq_iff_eq.mp e; subst this; exact List.mem_cons_self
              · exact List.mem_cons_of_mem _ (ih this)
          exact hm (List.mem_map.mpr ⟨_, this, rfl⟩)
      · rw [List.append_nil]
        refine ⟨G2, a, s2, ?_, hp, fun d' hd => by rw [hr] at hd; cases hd; exact fun u G3 H3 e3 s3 r3 => q u G3 H3 ((e1.trans e2).trans e3.all) s3 r3, fun C o z => by rw [hr] at z; cases z⟩
        rw [← hx]
        exact .cons ((Rep.obj e rfl r).mono e2.g) r2
end Dl

/-! Dk: the rules with the written part K named (for a comprehension's block). -/
namespace Dl
open PySem L2 Evl PySem.Spec PyProof.Rows
section
variable {X : Cx} (K : PySem.W.Frag) {e a b o : Expr} {es : List Expr} {ta tb te to : TE} {t : TA} {f x : Str} {p pos apos : Pos} {tg it : Expr}
theorem k_add (hK : X.K = K) : OpR X (binaryOp .Add) (rAddG K) := by subst hK; exact op_addG
theorem k_mul (hK : X.K = K) : OpR X (binaryOp .Mult) (rMulG K) := by subst hK; exact op_mulG
theorem k_eq (hK : X.K = K) (hu : X.A.units + 64 < cLine) : OpR X (compareOp .Eq) (Dl.rEqG K) := by subst hK; exact Dl.op_eqG hu
theorem k_ne (hK : X.K = K) (hu : X.A.units + 64 < cLine) : OpR X (compareOp .NotEq) (rNeG K) := by subst hK; exact op_neG hu
theorem k_in (hK : X.K = K) : OpR X (compareOp .In) (rInG K) := by subst hK; exact op_inG
theorem k_nin (hK : X.K = K) : OpR X (compareOp .NotIn) (rNinG K) := by subst hK; exact op_ninG
theorem k_ix (hK : X.K = K) : IxR X (rIxG K) := by subst hK; exact ix_G
theorem k_sl (hK : X.K = K) : SlR X (rSlG K) := by subst hK; exact sl_G
theorem k_len (hK : X.K = K) : CallR X (.builtin "len") (rLenG K) := by subst hK; exact call_lenG
theorem k_sum (hK : X.K = K) (hc : X.calm = true) : CallR X (.builtin "sum") (rSum K) := by subst hK; exact cr_sum hc
theorem k_all (hK : X.K = K) (hc : X.calm = true) : CallR X (.builtin "all") (rAll K) := by subst hK; exact cr_all hc
theorem k_any (hK : X.K = K) (hc : X.calm = true) : CallR X (.builtin "any") (rAny K) := by subst hK; exact cr_any hc
theorem k_max (hK : X.K = K) (hc : X.calm = true) : CallR X (.builtin "max") (rMax K) := by subst hK; exact cr_max hc
theorem k_min (hK : X.K = K) (hc : X.calm = true) : CallR X (.builtin "min") (rMin K) := by subst hK; exact cr_min hc
theorem k_isi (hK : X.K = K) : CallR X (.builtin "isinstance") (rIsi K) := by subst hK; exact call_isi
def rListG (K : PySem.W.Frag) : List V → Hp → VK → Prop := fun xs H Q => ∃ p ys, xs = [.ref p] ∧ (SqL K H p ys ∨ SqT K H p ys) ∧ ∀ l, H l = none → Q (.ref l) (upd H l (.lst ys))
theorem k_list (hK : X.K = K) : CallR X (.type "list") (rListG K) := by subst hK; exact call_list_of
def rTupleG (K : PySem.W.Frag) : List V → Hp → VK → Prop := fun xs H Q => ∃ p ys, xs = [.ref p] ∧ ((SqL K H p ys ∧ ∀ l, H l = none → Q (.ref l) (upd H l (.tup ys))) ∨ (SqT K H p ys ∧ Q (.ref p) H))
theorem k_tuple (hK : X.K = K) : CallR X (.type "tuple") (rTupleG K) := by subst hK; exact call_tuple_of
theorem k_fld (hK : X.K = K) (he : PE X e ta) (hb : attributeBase e f X.env (eval e X.env) = eval e X.env) : PE X (.Attribute e f pos) (tFld K ta f) := by subst hK; exact pe_fld he hb
theorem k_sfld {value : Expr} {tv : TE} {pos' : Pos} (hK : X.K = K) (ha : PE X o ta) (hv : PE X value tv) (hs : swapsWith value (some (.Attribute o f pos')) pos.line X.env = pure false) : PS X (.Assign [.Attribute o f pos'] value pos) (sFld K ta tv f) := by subst hK; exact ps_fld ha hv hs
theorem k_tru (hK : X.K = K) (ha : PE X a ta) (he : ∀ whole, isTrue a X.env whole = (do let v ← whole; standAt a.pos; holding [v] (truthy v)) := by intro _; rfl) : PT X a (tTruG K ta) := by subst hK; exact pt_truG ha he
theorem k_ilist (hK : X.K = K) (h : PE X e te) : PI X tg e (iList K te) := by subst hK; exact pi_list h
theorem k_itup (hK : X.K = K) (h : PE X e te) : PI X tg e (iTup K te) := by subst hK; exact pi_tup h
theorem k_tup {k : Nat} {n : Nat} {ts : TGs} (hK : X.K = K) (hc : X.calm = true) (h : PGs X es ts) (hn : (assignEach es X.env).length = n := by rfl) (hst : (assignEach es X.env).findIdx? (·.1) = none := by rfl) : PG X (.Tuple es k pos) (gTup K n ts) := by subst hK; exact pg_tup hc h hn hst
theorem k_orT {rest : List Expr} (hK : X.K = K) (ha : PE X a ta) (hb : PE X (.BoolOp .Or (b :: rest) pos) tb) : PE X (.BoolOp .Or (a :: b :: rest) pos) (tOrT K ta tb) := by subst hK; exact pe_orT ha hb
/-- x.join(y) -/
def rJoin (K : PySem.W.Frag) : V → List V → Hp → VK → Prop := fun x xs H Q => ∃ a p, ∃ ys : List Str, x = .str a ∧ xs = [.ref p] ∧ (SqL K H p (ys.map V.str) ∨ SqT K H p (ys.map V.str)) ∧
    (ys.map (·.length)).sum + ys.length * a.length ≤ 16777216 ∧ Q (.str (Txt.join a ys)) H
theorem k_join (hK : X.K = K) (ho : PE X o to) (he : PE X e te) (hs : starEach [e] X.env = [(false, eval e X.env)] := by rfl) (hbase : attributeBase o "join" X.env (eval o X.env) = eval o X.env := by rfl) (hline : (apos.endLine == pos.line) = true := by rfl) :
    PE X (.Call (.Attribute o "join" apos) [e] [] pos) (tM1 (rJoin K) to te) := by subst hK; exact pe_join ho he hs hbase hline
theorem k_lst {k : Nat} {n : Nat} {ts : TGs} (hK : X.K = K) (hc : X.calm = true) (h : PGs X es ts) (hn : (assignEach es X.env).length = n := by rfl) (hst : (assignEach es X.env).findIdx? (·.1) = none := by rfl) : PG X (.Tuple es k pos) (gLst K n ts) := by subst hK; exact pg_lst hc h hn hst
end
end Dl

/-! Di: instances made; isinstance; lists that grow. -/
namespace Dl
open PySem L2 Evl PySem.Spec PyProof.Rows

/-! ### what is not determined -/
def En (c : Ctx) (te : TE) (ds : Fm) (P : D → Prop) : Prop := ∀ G H σ, At c G H σ ds → ∀ Q : VK, (∀ v d G1 H1, P d → Ext c.l G H G1 H1 → Ex G1 H1 → Rep c.K G1 v d → Q v H1) → te σ H Q
def Ena (c : Ctx) (ta : TA) (ds : Fm) (P : List D → Prop) : Prop := ∀ G H σ, At c G H σ ds → ∀ Q : List V → Hp → Prop, (∀ vs xs G1 H1, P xs → Ext c.l G H G1 H1 → Ex G1 H1 → Reps c.K G1 vs xs → Q vs H1) → ta σ H Q
def Ent (c : Ctx) (tt : TT) (ds : Fm) (P : Bool → Prop) : Prop := ∀ G H σ, At c G H σ ds → ∀ Q : Bool → Hp → Prop, (∀ b G1 H1, P b → Ext c.l G H G1 H1 → Ex G1 H1 → Q b H1) → tt σ H Q
def Eni (c : Ctx) (wi : TI) (ds : Fm) (P : List D → Prop) : Prop := ∀ G H σ, At c G H σ ds → ∀ R : It → Hp → Prop, (∀ J xs G1 H1, P xs → Ext c.l G H G1 H1 → Ex G1 H1 → ItD c.K J xs G1 → R J H1) → wi σ H R
section
variable {c : Ctx} {ds ds' : Fm} {n : DE} {te ta tb : TE} {tr : TA} {x y d : D} {xs : List D} {P P' : D → Prop} {R R' : List D → Prop} {i : Nat}
theorem en_of (h : Ee c te ds d) : En c te ds (fun d' => d' = d) := fun G H σ a Q q => h G H σ a Q fun v G1 H1 e s r => q v d G1 H1 rfl e s r
theorem ena_of (h : Ea c tr ds xs) : Ena c tr ds (fun d' => d' = xs) := fun G H σ a Q q => h G H σ a Q fun v G1 H1 e s r => q v xs G1 H1 rfl e s r
theorem eni_of {wi : TI} (h : Ei c wi ds xs) : Eni c wi ds (fun d' => d' = xs) := fun G H σ a Q q => h G H σ a Q fun J G1 H1 e s r => q J xs G1 H1 rfl e s r
theorem en_imp (h : En c te ds P) (k : ∀ d, P d → P' d) : En c te ds P' := fun G H σ a Q q => h G H σ a Q fun v d G1 H1 p => q v d G1 H1 (k d p)
theorem ena_nil : Ena c tNil ds (fun xs => xs = []) := ena_of ea_nil
theorem ena_cons (h : En c te ds P) (hr : Ena c tr ds R) : Ena c (tCons te tr) ds (fun xs => ∃ x r, xs = x :: r ∧ P x ∧ R r) := fun G H σ a Q q =>
  h G H σ a _ fun v d G1 H1 p e1 s1 r1 => hr G1 H1 σ (a.go e1 s1) _ fun vs xs G2 H2 p2 e2 s2 r2 => q _ _ G2 H2 ⟨d, xs, rfl, p, p2⟩ (e1.trans e2) s2 (.cons (r1.mono e2.g) r2)
theorem en_op {r : R2} {Pb : D → Prop} {z : D → D → D} (ha : En c ta ds P) (hb : En c tb ds Pb) (hr : ∀ x y, P x → Pb y → Rb c.K r x y (z x y)) : En c (tOp r ta tb) ds (fun d => ∃ x y, P x ∧ Pb y ∧ d = z x y) := fun G H σ a Q q =>
  ha G H σ a _ fun v x G1 H1 p e1 s1 r1 => hb G1 H1 σ (a.go e1 s1) _ fun w y G2 H2 p2 e2 s2 r2 => hr x y p p2 G2 H2 v w s2 (r1.mono e2.g) r2 Q fun u G3 H3 e3 s3 r3 => q u _ G3 H3 ⟨x, y, p, p2, rfl⟩ ((e1.trans e2).trans e3.all) s3 r3
theorem en_cb {r : List V → Hp → VK → Prop} {z : List D → D} (ha : Ena c tr ds R) (hr : ∀ xs, R xs → Rc c.K r xs (z xs)) : En c (tCB r tr) ds (fun d => ∃ xs, R xs ∧ d = z xs) := fun G H σ a Q q =>
  ha G H σ a _ fun v xs G1 H1 p e1 s1 r1 => hr xs p G1 H1 v s1 r1 Q fun u G3 H3 e3 s3 r3 => q u _ G3 H3 ⟨xs, p, rfl⟩ (e1.trans e3.all) s3 r3
theorem en_tup (ha : Ena c tr ds R) (hl : ∀ xs, R xs → xs.length ≤ 1000000) : En c (tTup tr) ds (fun d => ∃ xs, R xs ∧ d = .tup xs) := fun G H σ a Q q =>
  ha G H σ a _ fun v xs G1 H1 p e1 s1 r1 => ⟨by rw [r1.len]; exact sz_of (hl xs p), Then.tup (fun u G3 H3 e3 s3 r3 => q u _ G3 H3 ⟨xs, p, rfl⟩ (e1.trans e3.all) s3 r3) s1 r1⟩
theorem en_lst (ha : Ena c tr ds R) (hl : ∀ xs, R xs → xs.length ≤ 1000000) : En c (tLst tr) ds (fun d => ∃ xs, R xs ∧ d = .lst xs) := fun G H σ a Q q =>
  ha G H σ a _ fun v xs G1 H1 p e1 s1 r1 => ⟨by rw [r1.len]; exact sz_of (hl xs p), Then.lst (fun u G3 H3 e3 s3 r3 => q u _ G3 H3 ⟨xs, p, rfl⟩ (e1.trans e3.all) s3 r3) s1 r1⟩
theorem en_m1 {r : V → List V → Hp → VK → Prop} {s : Str} {z : D → D} (ha : Ee c te ds (.str s)) (hb : En c tb ds P) (hr : ∀ y, P y → Rm c.K r (.str s) [y] (z y)) : En c (tM1 r te tb) ds (fun d => ∃ y, P y ∧ d = z y) := fun G H σ a Q q =>
  ha G H σ a _ fun v G1 H1 e1 s1 r1 => ⟨by cases r1; exact ⟨_, rfl⟩, hb G1 H1 σ (a.go e1 s1) _ fun w y G2 H2 p e2 s2 r2 => hr y p G2 H2 v [w] s2 (r1.mono e2.g) (.cons r2 .nil) Q fun u G3 H3 e3 s3 r3 => q u _ G3 H3 ⟨y, p, rfl⟩ ((e1.trans e2).trans e3.all) s3 r3⟩
theorem ent_test {B : Bool → Prop} (h : En c te ds (fun d => ∃ b, d = .bl b ∧ B b)) : Ent c (tTest te) ds B := fun G H σ a Q q => h G H σ a _ fun v d G1 H1 p e1 s1 r1 => by
  obtain ⟨b, rfl, hb⟩ := p
  cases r1
  exact ⟨b, rfl, q b G1 H1 hb e1 s1⟩
theorem sn_asg (h : En c te ds P) (hi : i < ds.length) (k : ∀ d, P d → n.nx (ds.set i (.v d))) : St c (tAsg te (gName i)) n ds := fun G H σ a E l => h G H σ a _ fun v d G1 H1 p e1 s1 r1 =>
  l.nx G1 H1 _ _ e1.s ((a.go e1 s1).set r1 hi) (k d p)
theorem sn_ret (h : En c te ds P) (k : ∀ d, P d → n.rt d) : St c (tRet te) n ds := fun G H σ a E l => h G H σ a _ fun v d G1 H1 p e1 s1 r1 => l.rt G1 H1 v d e1.s s1 r1 (k d p)
theorem sn_if {tc : TT} {t1 t2 : TS} {B : Bool → Prop} (h : Ent c tc ds B) (h1 : B true → St c t1 n ds) (h2 : B false → St c t2 n ds) : St c (tIfS tc t1 t2) n ds := fun G H σ a E l => h G H σ a _ fun b G1 H1 p e1 s1 => by
  cases b with
  | true => exact h1 p G1 H1 σ (a.go e1 s1) E (l.go e1.s)
  | false => exact h2 p G1 H1 σ (a.go e1 s1) E (l.go e1.s)
theorem eni_rng1 (h : En c te ds (fun d => ∃ j : Int, d = .int j ∧ 0 ≤ j ∧ j ≤ 1000000000 ∧ R (upto j))) : Eni c (iRng1 (tCons te tNil)) ds R := fun G H σ a Q q => h G H σ a _ fun v d G1 H1 p e1 s1 r1 => by
  obtain ⟨j, rfl, h0, h1, hR⟩ := p
  cases r1
  refine ⟨j, rfl, by omega, by omega, q _ (upto j) G1 H1 hR e1 s1 ⟨fun i G H e1 e2 hi => (by rw [upto_len] at hi; exact hi : i < j.toNat), fun i G H v H' e1 e2 hi y => ?_, fun G H e1 e2 => (by rw [upto_len]; exact Nat.le_refl _ : j.toNat ≤ (upto j).length)⟩⟩
  obtain ⟨rfl, rfl⟩ := y
  refine ⟨.int (i : Int), G, ?_, Ext.refl, e2, ?_⟩
  · rw [upto_len] at hi
    unfold upto
    rw [List.getElem?_map, List.getElem?_range hi]; rfl
  · have e0 : (0 : Int) + (i : Int) = (i : Int) := Int.zero_add _
    rw [e0]; exact .int _
/-- a loop over what is not determined -/
theorem sn_for {α : Type} {wi : TI} {g : TG} {t1 : TS} (hi : Eni c wi ds R) (F : List D → Nat → α → Fm) (I : List D → Nat → α → Prop) (h0 : ∀ xs, R xs → ∃ a, Fle ds (F xs 0 a) ∧ I xs 0 a)
    (hs : ∀ xs, R xs → ∀ i d a, xs[i]? = some d → I xs i a → ∃ ds2 js, Eg c g d (F xs i a) ds2 js ∧ St c t1 { n with nx := fun ds' => ∃ a', Fle ds' (F xs (i + 1) a') ∧ I xs (i + 1) a', ct := fun ds' => ∃ a', Fle ds' (F xs (i + 1) a') ∧ I xs (i + 1) a', bk := n.nx } ds2)
    (hd : ∀ xs, R xs → ∀ a, I xs xs.length a → n.nx (F xs xs.length a)) : St c (tFor wi g t1) n ds := fun G H σ a E l => hi G H σ a _ fun J xs G1 H1 p e1 s1 it =>
  for_core it (a.go e1 s1) (l.go e1.s) (F xs) (I xs) (h0 xs p) (hs xs p) (hd xs p)
/-- a list whose elements are not determined -/
theorem en_lc {wi : TI} {g : TG} {vs js : List Nat} (hi : Ei c wi ds xs) (hz : xs.length ≤ 1000000) (hv : ∀ j ∈ js, j ∈ vs) (hs : ∀ (i : Nat) d, xs[i]? = some d → ∃ ds2, Eg c g d (wipeD ds vs) ds2 js ∧ En c te ds2 P) :
    En c (tLc wi g tYes te vs) ds (fun d => ∃ ys : List D, d = .lst ys ∧ ys.length = xs.length ∧ ∀ y ∈ ys, P y) := fun G0 H0 σ at' Q q => hi G0 H0 σ at' _ fun J G1 H1 e1 s1 it => by
  intro Dl hDl
  have at1 : At c G1 H1 σ ds := at'.go e1 s1
  have hg1 : G1 Dl = none := sub_none s1 hDl
  have hne : NotL c.l Dl := fun y z => (at1.lk Dl y z).1 hDl
  let Pv : Nat → Hp → Prop := fun i H => ∃ G ys zs, Ext c.l G1 H1 G H ∧ Ex G H ∧ G Dl = none ∧ H Dl = some (.lst ys) ∧ Reps c.K G ys zs ∧ zs.length = i ∧ ∀ z ∈ zs, P z
  refine ⟨fun i m H => i ≤ xs.length ∧ m = xs.length - i ∧ Pv i H, ⟨xs.length, Nat.zero_le _, rfl, G1, [], [], Ext.refl.mut hDl, sub_hid s1 hg1, hg1, upd_same, .nil, rfl, fun z hz => nomatch hz⟩, ?_⟩
  rintro i m H ⟨il, rfl, G, ys, zs, eg, sb, gd, hd, rp, zl, zP⟩
  by_cases hlt : i < xs.length
  · refine .inr ⟨it.go i G H eg.g sb hlt, Pv (i + 1), fun H' p => ⟨xs.length - (i + 1), by omega, hlt, rfl, p⟩, fun x H' y => ?_⟩
    obtain ⟨d, G2, hd', ex, sb2, rx⟩ := it.yld i G H x H' eg.g sb hlt y
    obtain ⟨ds2, hg, he⟩ := hs i d hd'
    have e2 : Ext c.l G1 H1 G2 H' := eg.trans ex.all
    have at2 : At c G2 H' (wipe σ vs) (wipeD ds vs) := (at1.go e2 sb2).wipe vs
    refine hg G2 H' _ x at2 rx _ fun σ2 a2 len2 keep => ⟨wipe_same (by rw [len2, wipe_length]) fun k hk => keep k fun z => hk (hv k z), ?_⟩
    refine he G2 H' σ2 a2 _ fun v e G4 H4 pe e4 s4 r4 => ?_
    have h1 : H' Dl = some (.lst ys) := ex.h Dl _ (fun _ z => nomatch z) hd
    have n1 : G4 Dl = none := e4.n Dl (by rw [h1]; simp) (ex.n Dl (by rw [hd]; simp) gd)
    have n2 : H4 Dl = some (.lst ys) := e4.h Dl _ hne h1
    have g4 : Ext c.l G1 H1 G4 H4 := e2.trans e4
    have len : ys.length ≤ i := by rw [rp.len]; omega
    exact ⟨ys, n2, sz_lt (by omega), G4, ys ++ [v], zs ++ [e], g4.mut hDl, sub_hid s4 n1, n1, upd_same, (rp.mono (ex.g.trans e4.g)).app (.cons r4 .nil), by simp [zl], fun z hz => by
      rcases List.mem_append.mp hz with h | h
      · exact zP z h
      · rw [List.mem_singleton.mp h]; exact pe⟩
  · have e : i = xs.length := by omega
    subst e
    refine .inl ⟨it.stop G H eg.g sb, q _ (.lst zs) (upd G Dl (.lst ys)) H ⟨zs, rfl, zl, zP⟩ ⟨eg.g.trans (Ex.new gd) |> e1.g.trans, (e1.trans eg).h, fun b hb hn => ?_, (e1.trans eg).t, (e1.trans eg).dr⟩ (fun b u e => ?_) (.lst upd_same (rp.mono (Ex.new gd)))⟩
    · have h1 : H1 b ≠ none := e1.t b hb
      rw [upd_ne (fun z => h1 (by rw [z]; exact hDl))]
      exact (e1.trans eg).n b hb hn
    · by_cases hb : b = Dl
      · subst hb; rw [upd_same] at e; rw [hd, e]
      · rw [upd_ne hb] at e; exact sb b u e
end
/-! ### defs that draw -/
def spD {α : Type} (K : PySem.W.Frag) (args : α → List D) (pre : α → Prop) (R : α → D → Prop) : Sp := fun vs H Q E => ∃ G a b sc us, Ex G H ∧ vs = .ref b :: us ∧ Reps K G us (args a) ∧ pre a ∧ G b = none ∧ DrawsOk H b sc ∧
  ∀ d, R a d → ∀ u G1 H1, Ext (some (b, sc)) G H G1 H1 → Ex G1 H1 → Rep K G1 u d → Q u H1
theorem spD_len {α : Type} {K : PySem.W.Frag} {args : α → List D} {pre : α → Prop} {R : α → D → Prop} {k : Nat} (hk : ∀ a, (args a).length + 1 = k) : ∀ vs H Q E, spD K args pre R vs H Q E → vs.length = k := fun vs H Q E h => by
  obtain ⟨G, a, b, sc, us, _, e, r, _⟩ := h
  rw [e, List.length_cons, r.len, hk]
theorem en_draw {α : Type} {args : α → List D} {pre : α → Prop} {R : α → D → Prop} {c : Ctx} {ds : Fm} {tr : TA} {xs : List D} {i : Nat} {a : α} {E : XK} (hx : ds[i]? = some .drw) (h : Ea c tr ds xs) (he : xs = args a) (hp : pre a) :
    En c (tCall (spD c.K args pre R) [] E (tCons (tVar i) tr)) ds (R a) := fun G H σ at' Q q => by
  obtain ⟨b, sc, h1, h2, h3, h4⟩ := at'.fr.ok i _ hx
  refine ⟨_, h2, h G H σ at' _ fun us G1 H1 e1 s1 r1 => ?_⟩
  subst he
  rw [List.append_nil]
  have nb : H b ≠ none := by obtain ⟨_, _, _, _, z, _⟩ := h4; rw [z]; simp
  refine ⟨G1, a, b, sc, us, s1, rfl, r1, hp, e1.n b nb h3, e1.dr b sc h1 h4, fun d hd u G2 H2 e2 s2 r2 => q u d G2 H2 hd (e1.trans (by rw [h1]; exact e2)) s2 r2⟩
theorem go_draw {α : Type} {K : PySem.W.Frag} {args : α → List D} {pre : α → Prop} {R : α → D → Prop} {N : List Str} {t : TS} {vs : List V} {H : Hp} {Q : VK} {E : XK} (h : spD K args pre R vs H Q E)
    (k : ∀ (a : α) (l : Option (Addr × Addr)) (W : Addr → Prop), pre a → St ⟨K, l, E, W, fun _ => False⟩ t { nx := fun _ => R a .non, rt := R a } (.drw :: ((args a).map Sl.v ++ List.replicate (N.length - 1 - (args a).length) Sl.no))) (hN : 0 < N.length) :
    t { nx := fun _ H' => Q .non H', rt := Q } (L2.start N vs) H := by
  obtain ⟨G, a, b, sc, us, s, rfl, r, hp, gb, hd, h1⟩ := h
  have nb : H b ≠ none := by obtain ⟨_, _, _, _, z, _⟩ := id hd; rw [z]; simp
  have nsc : H sc ≠ none := by obtain ⟨_, _, _, _, _, z, _⟩ := id hd; rw [z]; simp
  have up : ∀ {G' H'}, Exs ⟨K, some (b, sc), E, fun b => H b ≠ none, fun _ => False⟩ G H G' H' → Ext (some (b, sc)) G H G' H' := fun e =>
    ⟨e.g, fun x o hx q => e.h x o (by show H x ≠ none; rw [q]; simp) (fun z => z) hx q, fun b q z => e.n b q q z, e.t, e.dr⟩
  refine k a (some (b, sc)) (fun b => H b ≠ none) hp G H _ ⟨s, ?_, fun x y z => ?_, fun b z => z⟩ _ ⟨fun G' H' σ ds x a' z => h1 _ z .non G' H' (up x) a'.sub .non, fun G' H' v d x s' r' z => h1 d z v G' H' (up x) s' r', fun _ _ _ _ _ _ z => z.elim, fun _ _ _ _ _ _ z => z.elim, fun _ _ _ _ _ _ z => z.elim, fun _ _ _ _ _ _ _ _ _ z => z.elim, fun _ _ _ _ _ _ _ z => z.elim⟩
  · obtain ⟨N0, Nr, rfl⟩ : ∃ a l, N = a :: l := by cases N with | nil => simp at hN | cons a l => exact ⟨a, l, rfl⟩
    have f := slots (c := ⟨K, some (b, sc), E, fun b => H b ≠ none, fun _ => False⟩) (N := Nr) s r
    have e : L2.start (N0 :: Nr) (.ref b :: us) = some (.ref b) :: L2.start Nr us := by unfold L2.start; simp
    rw [e]
    refine ⟨?_, fun i s' hs => ?_, fun i j b ys zs hij hi hj e1 e2 => ?_⟩
    · have := f.len; simp only [List.length_cons, Nat.add_sub_cancel]; omega
    · cases i with
      | zero =>
        simp at hs
        subst hs
        exact ⟨b, sc, rfl, rfl, gb, hd⟩
      | succ i => exact f.ok i s' (by simpa using hs)
    · cases i with
      | zero => simp at hi
      | succ i => cases j with
        | zero => simp at hj
        | succ j => exact f.ap i j b ys zs (by omega) (by simpa using hi) (by simpa using hj) (by simpa using e1) (by simpa using e2)
  · have z' : (b, sc) = (x, y) := Option.some.inj z
    cases z'
    exact ⟨nb, gb, nsc⟩

/-! ### lists that a frame owns -/
section
variable {c : Ctx} {ds : Fm} {n : DE} {te ta tl : TE} {x d : D} {xs : List D} {i : Nat}
/-- x = [..]: a list of the frame's own -/
theorem Fr.own {G H : Hp} {σ : L2.St} {a : Addr} {vs : List V} (f : Fr c G H σ ds) (hi : i < ds.length) (hg : G a = none) (hh : H a = some (.lst vs)) (r : Reps c.K G vs xs) (hl : NotL c.l a) (hw : ¬ c.W a) (hq : NotI c.l a)
    (new : ∀ (j : Nat) ys, ds[j]? = some (.own ys) → σ[j]? ≠ some (some (.ref a))) : Fr c G H (σ.set i (some (.ref a))) (ds.set i (.own xs)) := by
  refine ⟨by simp [f.len], fun j s h => ?_, fun j k b ys zs hjk hj hk e1 e2 => ?_⟩
  · by_cases hj : i = j
    · subst hj
      rw [List.getElem?_set_self hi] at h
      cases h
      rw [List.getElem?_set_self (by rw [f.len]; exact hi)]
      exact ⟨a, vs, rfl, hg, hh, r, hl, hw, hq⟩
    · rw [List.getElem?_set_ne hj] at h ⊢
      exact f.ok j s h
  · by_cases nj : i = j
    · subst nj
      rw [List.getElem?_set_self (by rw [f.len]; exact hi)] at e1
      have e1' : V.ref a = V.ref b := Option.some.inj (Option.some.inj e1)
      cases e1'
      rw [List.getElem?_set_ne hjk] at hk e2
      exact new k zs hk e2
    · rw [List.getElem?_set_ne nj] at hj e1
      by_cases nk : i = k
      · subst nk
        rw [List.getElem?_set_self (by rw [f.len]; exact hi)] at e2
        have e2' : V.ref a = V.ref b := Option.some.inj (Option.some.inj e2)
        cases e2'
        exact new j ys hj e1
      · rw [List.getElem?_set_ne nk] at hk e2
        exact f.ap j k b ys zs hjk hj hk e1 e2
theorem st_own {ta : TA} (h : Ea c ta ds xs) (hz : xs.length ≤ 1000000) (hi : i < ds.length) (k : n.nx (ds.set i (.own xs))) : St c (tAsg (tLst ta) (gName i)) n ds := fun G H σ a E l => h G H σ a _ fun vs G1 H1 e1 s1 r1 => by
  refine ⟨by rw [r1.len]; exact sz_of hz, fun p hp => ?_⟩
  have a1 := a.go e1 s1
  have hg : G1 p = none := sub_none s1 hp
  have e2 : Ext c.l G1 H1 G1 (upd H1 p (.lst vs)) := Ext.refl.mut hp
  have a2 := a1.go e2 (sub_hid s1 hg)
  have hne : NotL c.l p := fun y z => (a1.lk p y z).1 hp
  refine l.nx G1 _ _ _ (e1.trans e2).s ⟨a2.sub, a2.fr.own hi hg upd_same r1 hne (fun w => a1.tr p w hp) (fun b z => (a1.lk b p z).2.2 hp) fun j ys hj e => ?_, a2.lk, a2.tr⟩ k
  obtain ⟨b, ws, q1, _, q3, _⟩ := a1.fr.ok j _ hj
  rw [e] at q1
  have q : V.ref p = V.ref b := Option.some.inj (Option.some.inj q1)
  cases q
  rw [hp] at q3; cases q3
/-- own.append(e) -/
theorem sn_app {P : D → Prop} (hx : ds[i]? = some (.own xs)) (h : En c te ds P) (hz : xs.length < 1000000) (k : ∀ d, P d → n.nx (ds.set i (.own (xs ++ [d])))) (nr : ds.any isRdr = false := by rfl) : St c (tDrop (tBM c.K "list" rAppend (tVar i) (tCons te tNil))) n ds := fun G H σ a E l => by
  obtain ⟨p, vs, h1, h2, h3, h4, h5, h6, h7⟩ := a.fr.ok i _ hx
  refine ⟨_, h1, .inl ⟨rfl, _, SqL.of h3⟩, h G H σ a _ fun v d G1 H1 pd e1 s1 r1 => ?_⟩
  have a1 := a.go e1 s1
  obtain ⟨p', vs', k1, k2, k3, k4, k5, k6, k7⟩ := a1.fr.ok i _ hx
  rw [h1] at k1
  have q : V.ref p = V.ref p' := Option.some.inj (Option.some.inj k1)
  cases q
  refine ⟨p, vs', v, rfl, rfl, k3, sz_lt (by rw [k4.len]; exact hz), ?_⟩
  have hi : i < ds.length := (List.getElem?_eq_some_iff.mp hx).1
  have dr : ∀ b b', c.l = some (b, b') → DrawsOk H1 b b' → DrawsOk (upd H1 p (.lst (vs' ++ [v]))) b b' := fun b b' hb q => by
    obtain ⟨ns, i', j, s, q1, q2, r⟩ := q
    have nb : b ≠ p := fun z => k5 b' (by rw [← z]; exact hb)
    have nb' : b' ≠ p := fun z => k7 b (by rw [← z]; exact hb)
    exact ⟨ns, i', j, s, by rw [upd_ne nb]; exact q1, by rw [upd_ne nb']; exact q2, r⟩
  have ht : ∀ b, H1 b ≠ none → upd H1 p (.lst (vs' ++ [v])) b ≠ none := fun b q => by
    by_cases hb : b = p
    · subst hb; rw [upd_same]; simp
    · rw [upd_ne hb]; exact q
  have ex : Exs c G1 H1 G1 (upd H1 p (.lst (vs' ++ [v]))) :=
    ⟨Ex.refl _, fun b o w _ _ q => by rw [upd_ne (fun z => k6 (by rw [← z]; exact w))]; exact q, fun b _ _ q => q, ht, dr⟩
  refine l.nx G1 _ σ _ (e1.s.trans ex) ⟨sub_hid s1 k2, ⟨by rw [List.length_set]; exact a1.fr.len, fun j s hs => ?_, fun j j' b ys zs hjj hj hj' e2 e3 => ?_⟩, fun b y hb => ⟨ht b (a1.lk b y hb).1, (a1.lk b y hb).2.1, ht y (a1.lk b y hb).2.2⟩, fun b w => ht b (a1.tr b w)⟩ (k d pd)
  · by_cases hj : i = j
    · subst hj
      rw [List.getElem?_set_self hi] at hs
      cases hs
      exact ⟨p, vs' ++ [v], h1, k2, upd_same, k4.app (.cons r1 .nil), k5, k6, k7⟩
    · rw [List.getElem?_set_ne hj] at hs
      have o := a1.fr.ok j s hs
      cases s with
      | no => trivial
      | v d => exact o
      | own ys =>
        obtain ⟨a', ws, o1, o2, o3, o4, o5, o6, o7⟩ := o
        have na : a' ≠ p := fun z => a1.fr.ap i j p xs ys hj hx hs h1 (by rw [← z]; exact o1)
        exact ⟨a', ws, o1, o2, by rw [upd_ne na]; exact o3, o4, o5, o6, o7⟩
      | drw =>
        obtain ⟨b, b', o1, o2, o3, o4⟩ := o
        exact ⟨b, b', o1, o2, o3, dr b b' o1 o4⟩
      | rdr w p' q' dx' C' d' ys => exact absurd (List.any_eq_true.mpr ⟨_, List.mem_of_getElem? hs, rfl⟩) (by rw [nr]; simp)
      | self p' dx C ns ys =>
        obtain ⟨fs, o1, o2, o3, o4⟩ := o
        have na : p' ≠ p := fun z => by rw [z, k3] at o3; cases o3
        exact ⟨fs, o1, o2, by rw [upd_ne na]; exact o3, o4⟩
  · by_cases hj1 : i = j
    · subst hj1
      rw [List.getElem?_set_ne hjj] at hj'
      exact a1.fr.ap i j' b xs zs hjj hx hj' e2 e3
    · rw [List.getElem?_set_ne hj1] at hj
      by_cases hj2 : i = j'
      · subst hj2
        exact a1.fr.ap j i b ys xs hjj hj hx e2 e3
      · rw [List.getElem?_set_ne hj2] at hj'
        exact a1.fr.ap j j' b ys zs hjj hj hj' e2 e3
theorem st_app (hx : ds[i]? = some (.own xs)) (h : Ee c te ds d) (hz : xs.length < 1000000) (k : n.nx (ds.set i (.own (xs ++ [d])))) (nr : ds.any isRdr = false := by rfl) : St c (tDrop (tBM c.K "list" rAppend (tVar i) (tCons te tNil))) n ds :=
  sn_app hx (en_of h) hz (fun d' e => by subst e; exact k) nr
/-- what is owned is known from now on -/
theorem st_frz {t : TS} (hx : ds[i]? = some (.own xs)) (k : St c t n (ds.set i (.v (.lst xs)))) (nr : ds.any isRdr = false := by rfl) : St c t n ds := fun G H σ a E l => by
  obtain ⟨p, vs, h1, h2, h3, h4, h5, h6, h7⟩ := a.fr.ok i _ hx
  have hi : i < ds.length := (List.getElem?_eq_some_iff.mp hx).1
  have gx : Ex G (upd G p (.lst vs)) := Ex.new h2
  have ne : ∀ b o, H b = some o → o ≠ .lst vs → b ≠ p := fun b o hb ho z => by rw [z, h3] at hb; exact ho (Option.some.inj hb).symm
  refine k (upd G p (.lst vs)) H σ ⟨fun b u e => ?_, ⟨by rw [List.length_set]; exact a.fr.len, fun j s hs => ?_, fun j j' b ys zs hjj hj hj' e2 e3 => ?_⟩, fun b y hb => ⟨(a.lk b y hb).1, ?_, (a.lk b y hb).2.2⟩, a.tr⟩ E (l.go ⟨gx, fun _ _ _ _ _ q => q, fun b w _ q => ?_, fun _ q => q, fun _ _ _ q => q⟩)
  · by_cases hb : b = p
    · subst hb; rw [upd_same] at e; rw [h3, e]
    · rw [upd_ne hb] at e; exact a.sub b u e
  · by_cases hj : i = j
    · subst hj
      rw [List.getElem?_set_self hi] at hs
      cases hs
      exact ⟨.ref p, h1, .lst upd_same (h4.mono gx)⟩
    · rw [List.getElem?_set_ne hj] at hs
      have o := a.fr.ok j s hs
      cases s with
      | no => trivial
      | v d => obtain ⟨u, o1, o2⟩ := o; exact ⟨u, o1, o2.mono gx⟩
      | own ys =>
        obtain ⟨a', ws, o1, o2, o3, o4, o5⟩ := o
        have na : a' ≠ p := fun z => a.fr.ap i j p xs ys hj hx hs h1 (by rw [← z]; exact o1)
        exact ⟨a', ws, o1, by rw [upd_ne na]; exact o2, o3, o4.mono gx, o5⟩
      | drw =>
        obtain ⟨b, b', o1, o2, o3, o4⟩ := o
        have nb : b ≠ p := fun z => h5 b' (by rw [← z]; exact o1)
        exact ⟨b, b', o1, o2, by rw [upd_ne nb]; exact o3, o4⟩
      | rdr w p' q' dx' C' d' ys => exact absurd (List.any_eq_true.mpr ⟨_, List.mem_of_getElem? hs, rfl⟩) (by rw [nr]; simp)
      | self p' dx C ns ys =>
        obtain ⟨fs, o1, o2, o3, o4, o5, o6⟩ := o
        have na : p' ≠ p := fun z => by rw [z, h3] at o3; cases o3
        exact ⟨fs, o1, by rw [upd_ne na]; exact o2, o3, o4, o5.mono gx, o6⟩
  · have nj : i ≠ j := fun z => by subst z; rw [List.getElem?_set_self hi] at hj; cases hj
    have nj' : i ≠ j' := fun z => by subst z; rw [List.getElem?_set_self hi] at hj'; cases hj'
    rw [List.getElem?_set_ne nj] at hj
    rw [List.getElem?_set_ne nj'] at hj'
    exact a.fr.ap j j' b ys zs hjj hj hj' e2 e3
  · rw [upd_ne (fun z => h5 y (by rw [← z]; exact hb))]; exact (a.lk b y hb).2.1
  · rw [upd_ne (fun z => h6 (by rw [← z]; exact w))]; exact q
end

/-! ### instances under way -/
def isSelf : Sl → Bool
  | .self _ _ _ _ _ => true
  | _ => false
section
variable {c : Ctx} {ds : Fm} {n : DE} {te ta tl : TE} {x d : D} {xs : List D} {i : Nat} {p dx C : Addr} {ns : List Str} {f : Str}
theorem putF_new {y : V} : ∀ {fs : List (Str × V)}, f ∉ fs.map (·.1) → putF f y fs = fs ++ [(f, y)]
  | [], _ => rfl
  | (g, u) :: fs, h => by
    simp only [List.map_cons, List.mem_cons, not_or] at h
    unfold putF
    rw [if_neg (fun z => h.1 z.symm), putF_new h.2]; rfl
theorem st_put (hx : ds[i]? = some (.self p dx C ns xs)) (h : Ee c te ds d) (hc : Cls c.K C) (hn : NoAttr c.K C f) (hf : f ∉ ns) (hz : ns.length < 1000) (k : n.nx (ds.set i (.self p dx C (ns ++ [f]) (xs ++ [d])))) (one : ds.map isSelf = (List.replicate ds.length false).set i true := by rfl) (nr : ds.any isRdr = false := by rfl) : St c (sFld c.K (tVar i) te f) n ds := fun G H σ a E l => h G H σ a _ fun v G1 H1 e1 s1 r1 => by
  have a1 := a.go e1 s1
  obtain ⟨fs, h1, h2, h3, h4, h5, h6, h7⟩ := a1.fr.ok i _ hx
  subst h4
  have hi : i < ds.length := (List.getElem?_eq_some_iff.mp hx).1
  refine ⟨_, h1, p, C, dx, fs, rfl, h3, hc, hn, by simpa using hz, ?_⟩
  rw [putF_new hf]
  have dr : ∀ b b', c.l = some (b, b') → DrawsOk H1 b b' → DrawsOk (upd H1 p (.ins C dx (fs ++ [(f, v)]))) b b' := fun b b' hb q => by
    obtain ⟨ns, i', j, s, q1, q2, r⟩ := q
    have nb : b ≠ p := fun z => by rw [z, h3] at q1; cases q1
    have nb' : b' ≠ p := fun z => by rw [z, h3] at q2; cases q2
    exact ⟨ns, i', j, s, by rw [upd_ne nb]; exact q1, by rw [upd_ne nb']; exact q2, r⟩
  have ht : ∀ b, H1 b ≠ none → upd H1 p (.ins C dx (fs ++ [(f, v)])) b ≠ none := fun b q => by
    by_cases hb : b = p
    · subst hb; rw [upd_same]; simp
    · rw [upd_ne hb]; exact q
  have ex : Exs c G1 H1 G1 (upd H1 p (.ins C dx (fs ++ [(f, v)]))) :=
    ⟨Ex.refl _, fun b o w m _ q => by rw [upd_ne (fun z => m (by rw [z]; exact h7))]; exact q, fun b _ _ q => q, ht, dr⟩
  refine l.nx G1 _ σ _ (e1.s.trans ex) ⟨sub_hid s1 h2, ⟨by rw [List.length_set]; exact a1.fr.len, fun j s hs => ?_, fun j j' b ys zs hjj hj hj' e2 e3 => ?_⟩, fun b y hb => ⟨ht b (a1.lk b y hb).1, (a1.lk b y hb).2.1, ht y (a1.lk b y hb).2.2⟩, fun b w => ht b (a1.tr b w)⟩ k
  · by_cases hj : i = j
    · subst hj
      rw [List.getElem?_set_self hi] at hs
      cases hs
      exact ⟨fs ++ [(f, v)], h1, h2, upd_same, by simp, by rw [List.map_append]; exact h5.app (.cons r1 .nil), h6, h7⟩
    · rw [List.getElem?_set_ne hj] at hs
      have o := a1.fr.ok j s hs
      cases s with
      | no => trivial
      | v d => exact o
      | own ys =>
        obtain ⟨a', ws, o1, o2, o3, o4⟩ := o
        have na : a' ≠ p := fun z => by rw [z, h3] at o3; cases o3
        exact ⟨a', ws, o1, o2, by rw [upd_ne na]; exact o3, o4⟩
      | drw =>
        obtain ⟨b, b', o1, o2, o3, o4⟩ := o
        exact ⟨b, b', o1, o2, o3, dr b b' o1 o4⟩
      | rdr w p' q' dx' C' d' ys =>
        exact absurd (List.any_eq_true.mpr ⟨_, List.mem_of_getElem? hs, rfl⟩) (by rw [nr]; simp)
      | self p' dx' C' ns' ys =>
        exfalso
        have q := congrArg (fun l : List Bool => l[j]?) one
        rw [List.getElem?_map, hs, List.getElem?_set_ne hj, List.getElem?_replicate] at q
        split at q <;> simp [isSelf] at q
  · have nj : i ≠ j := fun z => by subst z; rw [List.getElem?_set_self hi] at hj; cases hj
    have nj' : i ≠ j' := fun z => by subst z; rw [List.getElem?_set_self hi] at hj'; cases hj'
    rw [List.getElem?_set_ne nj] at hj
    rw [List.getElem?_set_ne nj'] at hj'
    exact a1.fr.ap j j' b ys zs hjj hj hj' e2 e3
end

/-! ### classes of the text: made by __init__ -/
structure HasI (K : PySem.W.Frag) (C : Addr) (qual : Str) (st : Stmt) (ps : List Str) : Prop where
  ex : ∃ f fd, Fun K "__init__" qual st f fd ∧ Mk K C f ∧ Binds K fd ps []
structure OkI (P : Program) (w : World) (K : PySem.W.Frag) (mg : Str → Option Value) (base : Heap) (CX : CXT) (k : Nat) (C : Addr) (ps : List Str) (sp : Sp) : Prop where
  ex : ∃ f fd, FnOk P w K mg base CX k f fd ps sp ∧ Mk K C f ∧ Binds K fd ps []
theorem HasI.ok {P : Program} {w : World} {K : PySem.W.Frag} {mg : Str → Option Value} {base : Heap} {qual : Str} {st : Stmt} {ps N : List Str} {k : Nat} {C : Addr} {sp : Sp} (h : HasI K C qual st ps) (S : FnScope N ps (defScope st)) (len : ∀ vs H Q E, sp vs H Q E → vs.length = ps.length)
    (hbody : ∀ (f : Addr) (cdv : Value) (A : Around) (outer : List Env) (s : Shared) (H : Hp) (vs : List V) (Q : VK) (E : XK), Room k (A.deeper (envOfC qual (defScope st) s.heap.objs.size f cdv)) → sp vs H Q E →
      ∃ t, PSs (cxOf CX0 P w K mg base N qual (defScope st) f cdv A outer s H E).nox (defBody st) t ∧ t { nx := fun _ H' => Q .non H', rt := Q } (L2.start N vs) H) : OkI P w K mg base CX0 (k + 1) C ps sp := by
  obtain ⟨f, fd, F, m, b⟩ := h.ex
  exact ⟨f, fd, F.ok S len (hbody f), m, b⟩
theorem HasI.okX {P : Program} {w : World} {K : PySem.W.Frag} {mg : Str → Option Value} {base : Heap} {qual : Str} {st : Stmt} {ps N : List Str} {k : Nat} {C : Addr} {sp : Sp} (h : HasI K C qual st ps) (S : FnScope N ps (defScope st)) (len : ∀ vs H Q E, sp vs H Q E → vs.length = ps.length)
    (hbody : ∀ (f : Addr) (cdv : Value) (A : Around) (outer : List Env) (s : Shared) (H : Hp) (vs : List V) (Q : VK) (E : XK), Room k (A.deeper (envOfC qual (defScope st) s.heap.objs.size f cdv)) → sp vs H Q E →
      ∃ t, PSs (cxOf (L2.CX P w) P w K mg base N qual (defScope st) f cdv A outer s H E) (defBody st) t ∧ t { nx := fun _ H' => Q .non H', rt := Q } (L2.start N vs) H) : OkI P w K mg base (L2.CX P w) (k + 1) C ps sp := by
  obtain ⟨f, fd, F, m, b⟩ := h.ex
  exact ⟨f, fd, F.okX S len (hbody f), m, b⟩
theorem pe_makeH {X : Cx} {CX : CXT} {k : Nat} {C : Addr} {x : Str} {ps : List Str} {sp : Sp} {E : XK} {p pos : Pos} {e : Expr} {es : List Expr} {t : TA} (h : OkI X.prog X.w X.K X.mg X.base CX k C ps sp) (hm : X.mg x = some (.ref C)) (hr : Room (k + 1) X.A) (hg : Gl X x) (hx : Passes CX X E) (ha : PA X (e :: es) t) (hdb : (x == ("__debug__" : Str)) = false := by decide)
    (he : starEach (e :: es) X.env = (false, eval e X.env) :: starEach es X.env := by rfl) (hpl : (backTo pos (starEach es X.env)).any (·.1) = false := by rfl) : PE X (.Call (.Name x p) (e :: es) [] pos) (tMake C sp [] E t) := by
  obtain ⟨f, fd, G, m, b⟩ := h.ex
  exact pe_make m G hr hg hm b .nil hx ha hdb he hpl
/-- what an __init__ makes of its instance, or how it refuses -/
inductive Mkr where
  | ok (ns : List Str) (xs : List D) | err (C : Addr)
def spI {α : Type} (K : PySem.W.Frag) (C : Addr) (args : α → List D) (pre : α → Prop) (res : α → Mkr) : Sp := fun vs H Q E => ∃ G a p dx us, Ex G H ∧ vs = .ref p :: us ∧ Reps K G us (args a) ∧ pre a ∧ G p = none ∧ H p = some (.ins C dx []) ∧
  (∀ ns xs, res a = .ok ns xs → ∀ G1 H1 fs, Exs ⟨K, none, E, fun b => H b ≠ none, fun b => b = p⟩ G H G1 H1 → Ex G1 H1 → H1 p = some (.ins C dx fs) → fs.map (·.1) = ns → Reps K G1 (fs.map (·.2)) xs → G1 p = none → Q .non H1) ∧
  ∀ C', res a = .err C' → ∀ G1 H1, Exs ⟨K, none, E, fun b => H b ≠ none, fun b => b = p⟩ G H G1 H1 → Ex G1 H1 → E (.ref C') none H1
theorem spI_len {α : Type} {K : PySem.W.Frag} {C : Addr} {args : α → List D} {pre : α → Prop} {res : α → Mkr} {k : Nat} (hk : ∀ a, (args a).length + 1 = k) : ∀ vs H Q E, spI K C args pre res vs H Q E → vs.length = k := fun vs H Q E h => by
  obtain ⟨G, a, p, dx, us, _, e, r, _⟩ := h
  rw [e, List.length_cons, r.len, hk]
theorem go_init {α : Type} {K : PySem.W.Frag} {C : Addr} {args : α → List D} {pre : α → Prop} {res : α → Mkr} {N : List Str} {t : TS} {vs : List V} {H : Hp} {Q : VK} {E : XK} (h : spI K C args pre res vs H Q E)
    (k : ∀ (a : α) (W M : Addr → Prop) (p dx : Addr), pre a → St ⟨K, none, E, W, M⟩ t { nx := fun ds => ∃ ns xs, res a = .ok ns xs ∧ ds[0]? = some (.self p dx C ns xs), rt := fun _ => False, er := fun C' o => ∃ D', C' = .ref D' ∧ o = none ∧ res a = .err D' } (.self p dx C [] [] :: ((args a).map Sl.v ++ List.replicate (N.length - 1 - (args a).length) Sl.no))) (hN : 0 < N.length) :
    t { nx := fun _ H' => Q .non H', rt := Q } (L2.start N vs) H := by
  obtain ⟨G, a, p, dx, us, s, rfl, r, hp, gp, h0, h1, h2⟩ := h
  refine k a (fun b => H b ≠ none) (fun b => b = p) p dx hp G H _ ⟨s, ?_, fun b _ z => (nomatch z), fun b z => z⟩ _ ⟨fun G' H' σ ds x a' z => ?_, fun _ _ _ _ _ _ _ z => z.elim, fun _ _ _ _ _ _ z => z.elim, fun _ _ _ _ _ _ z => z.elim, fun G' H' C o x s' z => ?_, fun _ _ _ _ _ _ _ _ _ z => z.elim, fun _ _ _ _ _ _ _ z => z.elim⟩
  · obtain ⟨N0, Nr, rfl⟩ : ∃ a l, N = a :: l := by cases N with | nil => simp at hN | cons a l => exact ⟨a, l, rfl⟩
    have f := slots (c := ⟨K, none, E, fun b => H b ≠ none, fun b => b = p⟩) (N := Nr) s r
    have e : L2.start (N0 :: Nr) (.ref p :: us) = some (.ref p) :: L2.start Nr us := by unfold L2.start; simp
    rw [e]
    refine ⟨?_, fun i s' hs => ?_, fun i j b ys zs hij hi hj e1 e2 => ?_⟩
    · have := f.len; simp only [List.length_cons, Nat.add_sub_cancel]; omega
    · cases i with
      | zero =>
        simp at hs
        subst hs
        exact ⟨[], rfl, gp, h0, rfl, .nil, fun _ z => (nomatch z), rfl⟩
      | succ i => exact f.ok i s' (by simpa using hs)
    · cases i with
      | zero => simp at hi
      | succ i => cases j with
        | zero => simp at hj
        | succ j => exact f.ap i j b ys zs (by omega) (by simpa using hi) (by simpa using hj) (by simpa using e1) (by simpa using e2)
  · obtain ⟨ns, xs, e1, e2⟩ := z
    obtain ⟨fs, o1, o2, o3, o4, o5, _⟩ := a'.fr.ok 0 _ e2
    exact h1 ns xs e1 G' H' fs x a'.sub o3 o4 o5 o2
  · obtain ⟨D', rfl, rfl, e⟩ := z
    exact h2 D' e G' H' x s'
section
variable {α : Type} {args : α → List D} {pre : α → Prop} {res : α → Mkr} {c : Ctx} {ds : Fm} {ta : TA} {a : α} {C : Addr} {ns : List Str} {ys xs : List D} {n : DE}
theorem mk_run {E : XK} {G1 H1 : Hp} {vs : List V} (Q : VK) (s1 : Ex G1 H1) (r1 : Reps c.K G1 vs (args a)) (hp : pre a)
    (h1 : ∀ ns ys, res a = .ok ns ys → ∀ x G2 H2, Ext none G1 H1 G2 H2 → Ex G2 H2 → Rep c.K G2 (.ref x) (.obj C ns ys) → Q (.ref x) H2) (h2 : ∀ C', res a = .err C' → ∀ G2 H2, Ext none G1 H1 G2 H2 → Ex G2 H2 → E (.ref C') none H2) :
    ∀ x dx, H1 x = none → H1 dx = none → dx ≠ x → spI c.K C args pre res (.ref x :: (vs ++ [])) (upd (upd H1 dx (.own x)) x (.ins C dx [])) (fun v H2 => v = .non ∧ Q (.ref x) H2) E := fun x dx nx nd ne => by
  rw [List.append_nil]
  have gx : G1 x = none := sub_none s1 nx
  have gd : G1 dx = none := sub_none s1 nd
  have h12 : ∀ b o, H1 b = some o → (upd (upd H1 dx (.own x)) x (.ins C dx [])) b = some o := fun b o e => by rw [upd_ne (ne_of_none e nx), upd_ne (ne_of_none e nd)]; exact e
  have sub : Ex G1 (upd (upd H1 dx (.own x)) x (.ins C dx [])) := fun b o e => h12 b o (s1 b o e)
  have up : ∀ {G2 H2}, Exs ⟨c.K, none, E, fun b => (upd (upd H1 dx (.own x)) x (.ins C dx [])) b ≠ none, fun b => b = x⟩ G1 (upd (upd H1 dx (.own x)) x (.ins C dx [])) G2 H2 → Ext none G1 H1 G2 H2 := fun e => by
    refine ⟨e.g, fun b o _ q => ?_, fun b q z => ?_, fun b q => ?_, fun b _ z => (nomatch z)⟩
    · exact e.h b o (by show _ ≠ none; rw [h12 b o q]; simp) (fun z => (ne_of_none q nx) z) (fun _ z => nomatch z) (h12 b o q)
    · have w : (upd (upd H1 dx (.own x)) x (.ins C dx [])) b ≠ none := by
        cases q' : H1 b with
        | none => exact absurd q' q
        | some o => rw [h12 b o q']; simp
      exact e.n b w w z
    · cases q' : H1 b with
      | none => exact absurd q' q
      | some o => exact e.t b (by rw [h12 b o q']; simp)
  refine ⟨G1, a, x, dx, vs, sub, rfl, r1, hp, gx, upd_same, fun ns ys hr G2 H2 fs e2 s2 hx en r2 g2 => ⟨rfl, ?_⟩, fun C' hr G2 H2 e2 s2 => h2 C' hr G2 H2 (up e2) s2⟩
  -- the instance becomes known
  have e3 := up e2
  have gg : Ex G2 (upd G2 x (.ins C dx fs)) := Ex.new g2
  refine h1 ns ys hr x (upd G2 x (.ins C dx fs)) H2 ⟨e3.g.trans gg, e3.h, fun b q z => ?_, e3.t, e3.dr⟩ (fun b u e => ?_) (.obj upd_same en (r2.mono gg))
  · rw [upd_ne (fun z' => q (by rw [z']; exact nx))]; exact e3.n b q z
  · by_cases hb : b = x
    · subst hb; rw [upd_same] at e; rw [hx, e]
    · rw [upd_ne hb] at e; exact s2 b u e
theorem ee_make {E : XK} (h : Ea c ta ds xs) (hx : xs = args a) (hp : pre a) (hr : res a = .ok ns ys) : Ee c (tMake C (spI c.K C args pre res) [] E ta) ds (.obj C ns ys) := fun G H σ at' Q q =>
  h G H σ at' _ fun vs G1 H1 e1 s1 r1 => by
    subst hx
    exact mk_run Q s1 r1 hp (fun ns' ys' z x G2 H2 e2 s2 r2 => by rw [hr] at z; cases z; exact q _ G2 H2 (e1.trans e2.all) s2 r2) (fun C' z => by rw [hr] at z; cases z)
/-- C(..) as a statement, that may raise -/
theorem st_make (h : Ea c ta ds xs) (hx : xs = args a) (hp : pre a) (h1 : ∀ ns ys, res a = .ok ns ys → n.nx ds) (h2 : ∀ C', res a = .err C' → n.er (.ref C') none) : St c (tDrop (tMake C (spI c.K C args pre res) [] c.X ta)) n ds := fun G H σ at' E l =>
  h G H σ at' _ fun vs G1 H1 e1 s1 r1 => by
    subst hx
    exact mk_run (fun _ H2 => E.nx σ H2) s1 r1 hp (fun ns' ys' z x G2 H2 e2 s2 r2 => l.nx G2 H2 σ ds (e1.trans e2.all).s (at'.go (e1.trans e2.all) s2) (h1 _ _ z)) (fun C' z G2 H2 e2 s2 => l.er G2 H2 (.ref C') none (e1.trans e2.all).s s2 (h2 C' z))
/-- .. returned -/
theorem st_retmake (h : Ea c ta ds xs) (hx : xs = args a) (hp : pre a) (h1 : ∀ ns ys, res a = .ok ns ys → n.rt (.obj C ns ys)) (h2 : ∀ C', res a = .err C' → n.er (.ref C') none) : St c (tRet (tMake C (spI c.K C args pre res) [] c.X ta)) n ds := fun G H σ at' E l =>
  h G H σ at' _ fun vs G1 H1 e1 s1 r1 => by
    subst hx
    exact mk_run E.rt s1 r1 hp (fun ns' ys' z x G2 H2 e2 s2 r2 => l.rt G2 H2 _ _ (e1.trans e2.all).s s2 r2 (h1 _ _ z)) (fun C' z G2 H2 e2 s2 => l.er G2 H2 (.ref C') none (e1.trans e2.all).s s2 (h2 C' z))
end

/-! ### isinstance -/
mutual
def plainD : D → Bool
  | .lst xs => plainL xs
  | .tup xs => plainL xs
  | .obj _ _ _ => false
  | .ty _ => false
  | .cls _ => false
  | _ => true
def plainL : List D → Bool
  | [] => true
  | x :: xs => plainD x && plainL xs
end
def tyN : D → String
  | .non => "NoneType"
  | .bl _ => "bool"
  | .int _ => "int"
  | .str _ => "str"
  | .lst _ => "list"
  | .tup _ => "tuple"
  | _ => "object"
theorem tyx_of {K : PySem.W.Frag} {G H : Hp} {v : V} {x : D} (s : Ex G H) (r : Rep K G v x) (h : plainD x = true) : TyX K H v (.type (tyN x)) := by
  cases r with
  | non => exact .base .non
  | bl b => exact .base (.bl b)
  | int i => exact .base (.int i)
  | str y => exact .base (.str y)
  | lst e _ => exact .base (.lst (s _ _ e))
  | tup e _ =>
    have e' := ex_t s e
    rcases e' with (e' | ⟨o, e'⟩) | ⟨o, its, n, h1, h2, _⟩
    · exact .base (.tup e')
    · exact .fTuple e'
    · exact .kTuple h1 h2
  | obj _ _ _ => cases h
  | ty _ => cases h
  | cls _ => cases h
section
variable {K : PySem.W.Frag} {x : D}
theorem rc_isiT {n : String} {b : Bool} (hx : plainD x = true) (h : kitB (tyN x) n = some b) : Rc K (rIsi K) [x, .ty n] (.bl b) := fun G H vs s r Q t => by
  cases r with
  | cons r r' => cases r' with
    | cons r1 r2 =>
      cases r2; cases r1
      exact ⟨_, _, _, _, b, rfl, .ty n, tyx_of s r hx, kit_ty h, t.same s (.bl b)⟩
def isInt : D → Bool
  | .int _ => true
  | .bl _ => true
  | _ => false
def isBool : D → Bool
  | .bl _ => true
  | _ => false
def isStr : D → Bool
  | .str _ => true
  | _ => false
def isTup : D → Bool
  | .tup _ => true
  | _ => false
def isLst : D → Bool
  | .lst _ => true
  | _ => false
theorem rc_isInt (hx : plainD x = true) : Rc K (rIsi K) [x, .ty "int"] (.bl (isInt x)) := rc_isiT hx (by cases x <;> first | (cases hx; done) | (dsimp only [tyN, isInt, isBool, isStr, Dl.isTup, isLst]; decide +kernel))
theorem rc_isBool (hx : plainD x = true) : Rc K (rIsi K) [x, .ty "bool"] (.bl (isBool x)) := rc_isiT hx (by cases x <;> first | (cases hx; done) | (dsimp only [tyN, isInt, isBool, isStr, Dl.isTup, isLst]; decide +kernel))
theorem rc_isStr (hx : plainD x = true) : Rc K (rIsi K) [x, .ty "str"] (.bl (isStr x)) := rc_isiT hx (by cases x <;> first | (cases hx; done) | (dsimp only [tyN, isInt, isBool, isStr, Dl.isTup, isLst]; decide +kernel))
theorem rc_isTup (hx : plainD x = true) : Rc K (rIsi K) [x, .ty "tuple"] (.bl (Dl.isTup x)) := rc_isiT hx (by cases x <;> first | (cases hx; done) | (dsimp only [tyN, isInt, isBool, isStr, Dl.isTup, isLst]; decide +kernel))
theorem rc_isLst (hx : plainD x = true) : Rc K (rIsi K) [x, .ty "list"] (.bl (isLst x)) := rc_isiT hx (by cases x <;> first | (cases hx; done) | (dsimp only [tyN, isInt, isBool, isStr, Dl.isTup, isLst]; decide +kernel))
theorem rc_isDict (hx : plainD x = true) : Rc K (rIsi K) [x, .ty "dict"] (.bl false) := rc_isiT hx (by cases x <;> first | (cases hx; done) | (dsimp only [tyN, isInt, isBool, isStr, Dl.isTup, isLst]; decide +kernel))
end
/-! ### a sign among texts -/
theorem rb_inS {K : PySem.W.Frag} {s : Str} {ys : List Str} : Rb K (rInG K) (.str s) (.tup (ys.map D.str)) (.bl (ys.any fun y => y == s)) := fun G H v w sb r1 r2 Q t => by
  cases r1
  cases r2 with
  | tup e q =>
    have hv := q.strs
    subst hv
    refine ⟨_, _, rfl, .inr (ex_t sb e), rfl, ?_, ?_⟩
    · rw [List.all_map]; exact List.all_eq_true.mpr fun _ _ => rfl
    · have e' : inV (.str s) (ys.map V.str) = ys.any fun y => y == s := by unfold inV; rw [List.any_map]; rfl
      have := t.same (u := .bl (inV (.str s) (ys.map V.str))) sb (by rw [e']; exact .bl _)
      exact this
end Dl

/-! Dj: texts joined, lists unpacked, tuples of lists. -/
namespace Dl
open PySem L2 Evl PySem.Spec PyProof.Rows
section
variable {K : PySem.W.Frag} {c : Ctx} {ds ds' : Fm} {n : DE} {te ta tb : TE} {x y d : D} {xs : List D}
theorem join_bits : ∀ l : List Bool, Txt.join "" (l.map fun b => bs [b]) = bs l := fun l => by
  rw [TL.join_eq]
  induction l with
  | nil => rfl
  | cons b l ih =>
    cases l with
    | nil => rfl
    | cons b2 l =>
      show bs [b] ++ ("" : Str) ++ Str.join "" ((b2 :: l).map fun b => bs [b]) = _
      rw [ih, bs_nil, bs_app, bs_app]; rfl
theorem join_strs {ys : List Str} {s : Str} (hz : (ys.map (·.length)).sum + ys.length * s.length ≤ 16777216) : Rm K (rJoin K) (.str s) [.lst (ys.map D.str)] (.str (Txt.join s ys)) := fun G H v vs sb r1 r2 Q t => by
  cases r1
  cases r2 with
  | cons r2 r3 =>
    cases r3
    cases r2 with
    | lst e q =>
      have hv := q.strs
      subst hv
      exact ⟨_, _, ys, rfl, rfl, .inl (SqL.of (sb _ _ e)), hz, t.same sb (.str _)⟩
theorem sum_ones : ∀ l : List Bool, ((l.map fun b => bs [b]).map (·.length)).sum = l.length
  | [] => rfl
  | b :: l => by
    simp only [List.map_cons, List.sum_cons, List.length_cons] at *
    rw [sum_ones l, bs_len]; simp; omega
theorem rm_joinB {l : List Bool} (hz : l.length ≤ 1000000) : Rm K (rJoin K) (.str "") [.lst (l.map fun b => .str (bs [b]))] (.str (bs l)) := by
  have h := join_strs (K := K) (s := "") (ys := l.map fun b => bs [b]) (by
    have e0 : ("" : Str).length = 0 := by decide
    rw [sum_ones, e0]; omega)
  rw [join_bits, List.map_map] at h
  exact h
/-- bits joined, that are not determined -/
theorem en_joinB {P : List Bool → Prop} (hl : En c tb ds (fun d => ∃ l : List Bool, d = .lst (l.map fun b => .str (bs [b])) ∧ P l)) (hz : ∀ l, P l → l.length ≤ 1000000) : En c (tM1 (rJoin c.K) (tC (.str "")) tb) ds (fun d => ∃ l, d = .str (bs l) ∧ P l) := fun G H σ a Q q =>
  ⟨⟨_, rfl⟩, hl G H σ a _ fun w y G2 H2 p e2 s2 r2 => by
    obtain ⟨l, rfl, hp⟩ := p
    exact rm_joinB (hz l hp) G2 H2 _ [w] s2 (.str "") (.cons r2 .nil) Q fun u G3 H3 e3 s3 r3 => q u _ G3 H3 ⟨l, rfl, hp⟩ (e2.trans e3.all) s3 r3⟩
theorem list_bits : ∀ {ys : List D}, (∀ y ∈ ys, ∃ b : Bool, y = .str (bs [b])) → ∃ l : List Bool, ys = l.map fun b => .str (bs [b])
  | [], _ => ⟨[], rfl⟩
  | y :: ys, h => by
    obtain ⟨b, rfl⟩ := h y List.mem_cons_self
    obtain ⟨l, rfl⟩ := list_bits fun y hy => h y (List.mem_cons_of_mem _ hy)
    exact ⟨b :: l, rfl⟩
theorem eg_lst {m : Nat} {gs : TGs} {js : List Nat} (hl : xs.length = m) (h : Egs c gs xs ds ds' js) : Eg c (gLst c.K m gs) (.lst xs) ds ds' js := fun G H σ v a r Q q => by
  cases r with
  | lst s r => exact ⟨_, _, rfl, SqL.of (a.sub _ _ s), by rw [r.len, hl], h G H σ _ a r Q q⟩
theorem rc_tupleL : Rc K (rTupleG K) [.lst xs] (.tup xs) := fun G H vs s r Q t => by
  cases r with
  | cons r1 r2 =>
    cases r2
    cases r1 with
    | lst e q => exact ⟨_, _, rfl, .inl ⟨SqL.of (s _ _ e), t.tup s q⟩⟩
theorem rc_listL : Rc K (rListG K) [.lst xs] (.lst xs) := fun G H vs s r Q t => by
  cases r with
  | cons r1 r2 =>
    cases r2
    cases r1 with
    | lst e q => exact ⟨_, _, rfl, .inl (SqL.of (s _ _ e)), t.lst s q⟩
theorem rc_listT : Rc K (rListG K) [.tup xs] (.lst xs) := fun G H vs s r Q t => by
  cases r with
  | cons r1 r2 =>
    cases r2
    cases r1 with
    | tup e q => exact ⟨_, _, rfl, .inr (ex_t s e), t.lst s q⟩
theorem en_asgG {P : D → Prop} {g : TG} (h : En c te ds P) (hg : ∀ d, P d → ∃ ds' js, Eg c g d ds ds' js ∧ n.nx ds') : St c (tAsg te g) n ds := fun G H σ a E l => h G H σ a _ fun v d G1 H1 p e1 s1 r1 => by
  obtain ⟨ds', js, hg, k⟩ := hg d p
  exact hg G1 H1 σ v (a.go e1 s1) r1 _ fun σ' a' _ _ => l.nx G1 H1 _ _ e1.s a' k
end
/-- an item of a list, or nothing -/
def itD (x y : D) : D := match x, y with
  | .lst xs, .int i => (atI xs i).getD .non
  | _, _ => .non
def sgD (x y : D) : D := match y with
  | .int i => .str (bs [i == 1])
  | _ => .non
theorem rb_itD {K : PySem.W.Frag} {xs : List D} {i : Int} {d : D} (h : atI xs i = some d) : Rb K (rIxG K) (.lst xs) (.int i) (itD (.lst xs) (.int i)) := by
  have := rb_ixL (K := K) h
  show Rb K (rIxG K) _ _ ((atI xs i).getD .non)
  rw [h]; exact this
theorem rb_sgD {K : PySem.W.Frag} {x : D} {i : Int} (h0 : 0 ≤ i) (h1 : i < 2) : Rb K (rIxG K) (.str "01") (.int i) (sgD x (.int i)) := by
  have : i = 0 ∨ i = 1 := by omega
  rcases this with h | h <;> subst h
  · exact rb_ixS (by decide) rfl
  · exact rb_ixS (by decide) rfl
/-- str(i) -/
def rStrI : List V → Hp → VK → Prop := fun xs H Q => ∃ i, xs = [.int i] ∧ i.natAbs.log2 < 1920 ∧ Q (.str (toString i)) H
theorem k_str {X : Cx} : CallR X (.type "str") rStrI := call_str_int
theorem rc_strI {K : PySem.W.Frag} {i : Int} (h : i.natAbs.log2 < 1920) : Rc K rStrI [.int i] (.str (toString i)) := fun G H vs s r Q t => by
  cases r with
  | cons r1 r2 =>
    cases r2; cases r1
    exact ⟨_, rfl, h, t.same s (.str _)⟩
theorem rc_strBit {K : PySem.W.Frag} {n : Nat} : Rc K rStrI [.int ((n % 2 : Nat) : Int)] (.str (bs [n % 2 == 1])) := by
  have : n % 2 = 0 ∨ n % 2 = 1 := by omega
  rcases this with h | h <;> rw [h]
  · exact rc_strI (i := 0) (by decide)
  · exact rc_strI (i := 1) (by decide)
section
variable {c : Ctx} {ds : Fm} {ta tb : TE} {t u : TT} {α : Type} {K : PySem.W.Frag}
theorem et_or1 (h : Et c t ds true) : Et c (tOr t u) ds true := et_or (b := true) h fun z => nomatch z
theorem et_and0 (h : Et c t ds false) : Et c (tAnd t u) ds false := et_and (b := false) h fun z => nomatch z
theorem et_or2 {b : Bool} (h : Et c t ds false) (h2 : Et c u ds b) : Et c (tOr t u) ds b := et_is (et_or h fun _ => h2) (Bool.false_or b)
theorem et_and2 {b : Bool} (h : Et c t ds true) (h2 : Et c u ds b) : Et c (tAnd t u) ds b := et_is (et_and h fun _ => h2) (Bool.true_and b)
theorem ee_and0 (h : Ee c ta ds (.bl false)) : Ee c (tAndV ta tb) ds (.bl false) := ee_andV (b := false) h fun z => nomatch z
theorem ee_and2 {b : Bool} (h : Ee c ta ds (.bl true)) (h2 : Ee c tb ds (.bl b)) : Ee c (tAndV ta tb) ds (.bl b) := ee_is (ee_andV h fun _ => h2) (by rw [Bool.true_and])
theorem ee_or1 (h : Ee c ta ds (.bl true)) : Ee c (tOrV ta tb) ds (.bl true) := ee_orV (b := true) h fun z => nomatch z
theorem ee_or2 {b : Bool} (h : Ee c ta ds (.bl false)) (h2 : Ee c tb ds (.bl b)) : Ee c (tOrV ta tb) ds (.bl b) := ee_is (ee_orV h fun _ => h2) (by rw [Bool.false_or])
theorem et_tb {b : Bool} (h : Ee c ta ds (.bl b)) : Et c (tTruG c.K ta) ds b := et_truG h trivial
theorem rc_allF {f : α → Bool} {ys : List α} : Rc K (rAll K) [.lst (ys.map fun y => .bl (f y))] (.bl (ys.all f)) := by
  have := rc_all (K := K) (ns := ys.map f)
  rw [List.map_map, List.all_map] at this
  exact this
theorem rc_anyF {f : α → Bool} {ys : List α} : Rc K (rAny K) [.lst (ys.map fun y => .bl (f y))] (.bl (ys.any f)) := by
  have := rc_any (K := K) (ns := ys.map f)
  rw [List.map_map, List.any_map] at this
  exact this
theorem sign_in (k : Nat) : (["0", "1"] : List Str).any (fun y => y == ⟨#[k]⟩) = (k == 48 || k == 49) := by
  have e0 : ("0" : Str) = ⟨#[48]⟩ := by decide
  have e1 : ("1" : Str) = ⟨#[49]⟩ := by decide
  have ne : ∀ j : Nat, ((⟨#[j]⟩ : Str) == ⟨#[k]⟩) = (k == j) := fun j => by
    by_cases h : k = j
    · subst h; simp
    · have h1 : (k == j) = false := by simpa using h
      rw [h1]
      exact beq_eq_false_iff_ne.mpr fun z => h (by have := congrArg (fun s : Str => s.cps.toList) z; simpa using this.symm)
  simp only [List.any_cons, List.any_nil, Bool.or_false, e0, e1, ne]
end
end Dl

/-! Dq: == of data; == of a class of the text. -/
namespace Dl
open PySem L2 Evl PySem.Spec PyProof.Rows
mutual
def toPy : D → PyData
  | .non => .none
  | .bl b => .bool b
  | .int i => .int i
  | .str s => .str s
  | .lst xs => .list (toPyL xs)
  | .tup xs => .tuple (toPyL xs)
  | .obj _ _ _ => .none
  | .ty _ => .none
  | .cls _ => .none
def toPyL : List D → List PyData
  | [] => []
  | x :: xs => toPy x :: toPyL xs
end
section
variable {K : PySem.W.Frag} {G H : Hp}
mutual
theorem dp_of (s : Ex G H) : ∀ {d : D} {v : V}, Rep K G v d → plainD d = true → Dp K H v (toPy d)
  | .non, v, r, _ => by cases r; exact .non
  | .bl b, v, r, _ => by cases r; exact .bl b
  | .int i, v, r, _ => by cases r; exact .int i
  | .str x, v, r, _ => by cases r; exact .str x
  | .lst xs, v, r, h => by
    cases r with
    | lst e q => exact .lst (SqL.of (s _ _ e)) (dps_of s q h)
  | .tup xs, v, r, h => by
    cases r with
    | tup e q => exact .tup (ex_t s e) (dps_of s q h)
  | .obj _ _ _, v, r, h => nomatch h
  | .ty _, v, r, h => nomatch h
  | .cls _, v, r, h => nomatch h
theorem dps_of (s : Ex G H) : ∀ {ds : List D} {vs : List V}, Reps K G vs ds → plainL ds = true → DpAll K H vs (toPyL ds)
  | [], vs, r, _ => by cases r; exact .nil
  | x :: xs, vs, r, h => by
    cases r with
    | cons r1 r2 =>
      unfold plainL at h
      rw [Bool.and_eq_true] at h
      exact .cons (dp_of s r1 h.1) (dps_of s r2 h.2)
end
-- data that == looks through: no deeper than n, texts of signs
mutual
def shD : Nat → D → Bool
  | _, .non => true
  | _, .bl _ => true
  | _, .int _ => true
  | _, .str s => s.cps.all (· < 0x110000)
  | 0, .lst _ => false
  | 0, .tup _ => false
  | n + 1, .lst xs => shL n xs
  | n + 1, .tup xs => shL n xs
  | _, .obj _ _ _ => false
  | _, .ty _ => false
  | _, .cls _ => false
def shL : Nat → List D → Bool
  | _, [] => true
  | n, x :: xs => shD n x && shL n xs
end
mutual
theorem sh_ok : ∀ {d : D} {n : Nat}, shD n d = true → plainD d = true ∧ (toPy d).canLay0 = true ∧ (toPy d).depth ≤ n
  | .non, n, h => ⟨rfl, rfl, Nat.zero_le _⟩
  | .bl b, n, h => ⟨rfl, rfl, Nat.zero_le _⟩
  | .int i, n, h => ⟨rfl, rfl, Nat.zero_le _⟩
  | .str x, n, h => ⟨rfl, (by unfold shD at h; exact h), Nat.zero_le _⟩
  | .lst xs, 0, h => nomatch h
  | .tup xs, 0, h => nomatch h
  | .lst xs, n + 1, h => by
    unfold shD at h
    obtain ⟨h1, h2, h3⟩ := shs_ok h
    exact ⟨h1, h2, Nat.succ_le_succ h3⟩
  | .tup xs, n + 1, h => by
    unfold shD at h
    obtain ⟨h1, h2, h3⟩ := shs_ok h
    exact ⟨h1, h2, Nat.succ_le_succ h3⟩
  | .obj _ _ _, n, h => by unfold shD at h; cases h
  | .ty _, n, h => by unfold shD at h; cases h
  | .cls _, n, h => by unfold shD at h; cases h
theorem shs_ok : ∀ {ds : List D} {n : Nat}, shL n ds = true → plainL ds = true ∧ PyData.canLayAll0 (toPyL ds) = true ∧ PyData.depthAll (toPyL ds) ≤ n
  | [], n, h => ⟨rfl, rfl, Nat.zero_le _⟩
  | x :: xs, n, h => by
    unfold shL at h
    rw [Bool.and_eq_true] at h
    obtain ⟨a1, a2, a3⟩ := sh_ok h.1
    obtain ⟨b1, b2, b3⟩ := shs_ok h.2
    refine ⟨?_, ?_, ?_⟩
    · unfold plainL; rw [a1, b1]; rfl
    · unfold toPyL PyData.canLayAll0; rw [a2, b2]; rfl
    · unfold toPyL PyData.depthAll; exact Nat.max_le.mpr ⟨a3, b3⟩
end
theorem shaped_of {d : D} {n : Nat} (h : shD n d = true) (hn : n ≤ 64) : SeqAt.shaped (toPy d) = true := by
  obtain ⟨_, h2, h3⟩ := sh_ok h
  unfold SeqAt.shaped
  rw [h2, decide_eq_true (by omega)]; rfl
-- data without truth values: == is sameness
mutual
def nbD : D → Bool
  | .non => true
  | .int _ => true
  | .str _ => true
  | .lst xs => nbL xs
  | .tup xs => nbL xs
  | _ => false
def nbL : List D → Bool
  | [] => true
  | x :: xs => nbD x && nbL xs
end
mutual
theorem eqv_iff : ∀ {x y : D}, nbD x = true → nbD y = true → (PyData.eqv (toPy x) (toPy y) = true ↔ x = y)
  | .non, y, hx, hy => by cases y <;> simp_all [toPy, PyData.eqv, nbD]
  | .bl b, y, hx, hy => nomatch hx
  | .int i, y, hx, hy => by cases y <;> simp_all [toPy, PyData.eqv, nbD]
  | .str i, y, hx, hy => by cases y <;> simp_all [toPy, PyData.eqv, nbD]
  | .lst xs, .lst ys, hx, hy => by
    unfold nbD at hx hy
    have := eqvL_iff hx hy
    show PyData.eqvAll (toPyL xs) (toPyL ys) = true ↔ _
    rw [this]; simp
  | .tup xs, .tup ys, hx, hy => by
    unfold nbD at hx hy
    have := eqvL_iff hx hy
    show PyData.eqvAll (toPyL xs) (toPyL ys) = true ↔ _
    rw [this]; simp
  | .lst xs, .non, _, _ => by simp [toPy, PyData.eqv]
  | .lst xs, .int _, _, _ => by simp [toPy, PyData.eqv]
  | .lst xs, .str _, _, _ => by simp [toPy, PyData.eqv]
  | .lst xs, .tup _, _, _ => by simp [toPy, PyData.eqv]
  | .lst xs, .bl _, _, h => nomatch h
  | .lst xs, .obj _ _ _, _, h => nomatch h
  | .lst xs, .ty _, _, h => nomatch h
  | .lst xs, .cls _, _, h => nomatch h
  | .tup xs, .non, _, _ => by simp [toPy, PyData.eqv]
  | .tup xs, .int _, _, _ => by simp [toPy, PyData.eqv]
  | .tup xs, .str _, _, _ => by simp [toPy, PyData.eqv]
  | .tup xs, .lst _, _, _ => by simp [toPy, PyData.eqv]
  | .tup xs, .bl _, _, h => nomatch h
  | .tup xs, .obj _ _ _, _, h => nomatch h
  | .tup xs, .ty _, _, h => nomatch h
  | .tup xs, .cls _, _, h => nomatch h
  | .obj _ _ _, y, hx, hy => nomatch hx
  | .ty _, y, hx, hy => nomatch hx
  | .cls _, y, hx, hy => nomatch hx
theorem eqvL_iff : ∀ {x y : List D}, nbL x = true → nbL y = true → (PyData.eqvAll (toPyL x) (toPyL y) = true ↔ x = y)
  | [], [], _, _ => by simp [toPyL, PyData.eqvAll]
  | [], y :: ys, _, _ => by simp [toPyL, PyData.eqvAll]
  | x :: xs, [], _, _ => by simp [toPyL, PyData.eqvAll]
  | x :: xs, y :: ys, hx, hy => by
    unfold nbL at hx hy
    rw [Bool.and_eq_true] at hx hy
    have h1 := eqv_iff hx.1 hy.1
    have h2 := eqvL_iff hx.2 hy.2
    unfold toPyL PyData.eqvAll
    rw [Bool.and_eq_true, h1, h2]; simp
end
variable {x y : D}
theorem rb_eqP (m n : Nat) (hx : shD m x = true) (hy : shD n y = true) (hm : m ≤ 64) (hn : n ≤ 64) : Rb K (Dl.rEqG K) x y (.bl (PyData.eqv (toPy x) (toPy y))) := fun G H v w s r1 r2 Q t =>
  .inr ⟨_, _, dp_of s r1 (sh_ok hx).1, dp_of s r2 (sh_ok hy).1, shaped_of hx hm, shaped_of hy hn, t.same s (.bl _)⟩
theorem rb_neP (m n : Nat) (hx : shD m x = true) (hy : shD n y = true) (hm : m ≤ 64) (hn : n ≤ 64) : Rb K (rNeG K) x y (.bl (!PyData.eqv (toPy x) (toPy y))) := fun G H v w s r1 r2 Q t =>
  .inr ⟨_, _, dp_of s r1 (sh_ok hx).1, dp_of s r2 (sh_ok hy).1, shaped_of hx hm, shaped_of hy hn, t.same s (.bl _)⟩
theorem eqv_is {p : Prop} [Decidable p] (hx : nbD x = true) (hy : nbD y = true) (h : x = y ↔ p) : PyData.eqv (toPy x) (toPy y) = decide p := by
  rw [Bool.eq_iff_iff, eqv_iff hx hy, h]; simp
theorem bs_sh (l : List Bool) : (bs l).cps.all (· < 0x110000) = true := by
  rw [← Array.all_toList, bs_cps, List.all_map]
  exact List.all_eq_true.mpr fun b _ => by cases b <;> rfl
end
/-! ### an own == -/
def rOwnEq (K : PySem.W.Frag) (C : Addr) (sp : Sp) (E : XK) : R2 := fun x y H Q => ∃ a dx fs, x = .ref a ∧ H a = some (.ins C dx fs) ∧
  ((∃ b dy gs, y = .ref b ∧ H b = some (.ins C dy gs)) ∨ ∃ n, (∃ b xs, y = .ref b ∧ H b = some (.lst xs) ∧ n = "list") ∧ PySem.W.subIn K (.type n) (.ref C) = some false) ∧ sp [x, y] H (fun v H' => (∃ b, v = .bl b) ∧ Q v H') E
theorem op_ownEq {X : Cx} {CX : CXT} {k : Nat} {C : Addr} {ps : List Str} {sp : Sp} {E : XK} (h : OkM X.prog X.w X.K X.mg X.base CX k C "__eq__" ps sp) (hr : Room k X.A) (hx : Passes CX X E) : OpR X (compareOp .Eq) (rOwnEq X.K C sp E) := by
  obtain ⟨f, fd, F, m, hb⟩ := h.ex
  intro pins s σ H x y u v Q I rx ry d
  obtain ⟨a, dx, fs, rfl, ha, ht, hsp⟩ := d
  cases (show u = Value.ref a from rx)
  obtain ⟨mA, J, _⟩ := ins_get I.hok ha
  obtain ⟨od, J, _⟩ := J.look
  obtain ⟨mm, hF⟩ := I.fr
  have fin : wpAny (model X.prog X.w) X.A (call (.ref f) [.ref a, v]) (PySem.W.CmpBack (EP X pins σ Q)) X.xe s := by
    have hl := F.len _ _ _ _ hsp
    have r2 : Vals [V.ref a, y] [Value.ref a, v] := .cons rfl (.cons ry .nil)
    refine wpAny_call (codeAny_mono (F.run X.A X.stack s H ⟨[.ref a, v], []⟩ [.ref a, v] [.ref a, y] _ E hr I.env0 (by
      have := hb s [.ref a, v] I.kIn (by simpa using hl)
      simpa using this) r2 hsp) fun r s' hq => ?_)
    cases r with
    | error e => exact hx pins σ H s e s' I hq
    | ok fl =>
      cases fl with
      | ret w =>
        obtain ⟨z, H', I', rz, ⟨b, ez⟩, q⟩ := I.after hq
        subst ez
        cases rz
        exact ⟨.bl b, H', I', rfl, q⟩
      | next => exact False.elim hq
      | brk => exact False.elim hq
      | cont => exact False.elim hq
  show wpAny (model X.prog X.w) X.A (richCompare .Eq (.ref a) v) (EP X pins σ Q) X.xe s
  rcases ht with ⟨b, dy, gs, rfl, hb'⟩ | ⟨n, ⟨b, xs, rfl, hb', rfl⟩, hn⟩
  · cases (show v = Value.ref b from ry)
    obtain ⟨mB, J', _⟩ := ins_get I.hok hb'
    obtain ⟨od', J', _⟩ := J'.look
    exact PySem.W.cmp_K (op := .Eq) (tb := .ref C) hr.units0 hF I.ok.mod.kin J J'.type (by simp [PySem.W.notFirst]) m.at_ m.fn fin
  · cases (show v = Value.ref b from ry)
    obtain ⟨_, _, k, _, h1⟩ := (show ObjOk X.prog X.w H s.heap b (.lst xs) from I.hok b _ hb')
    exact PySem.W.cmp_K (op := .Eq) (tb := .type "list") hr.units0 hF I.ok.mod.kin J (fun A Q E s k' q => wpAny_typeOf_ref (k' _ _ h1) q) (by unfold PySem.W.notFirst; rw [hn]; simp) m.at_ m.fn fin
theorem k_own {X : Cx} (K : PySem.W.Frag) (hK : X.K = K) {CX : CXT} {k : Nat} {C : Addr} {ps : List Str} {sp : Sp} {E : XK} (h : OkM X.prog X.w X.K X.mg X.base CX k C "__eq__" ps sp) (hr : Room k X.A) (hx : Passes CX X E) : OpR X (compareOp .Eq) (rOwnEq K C sp E) := by subst hK; exact op_ownEq h hr hx
/-! ### isinstance(x, C), C a class of the text -/
structure OwnCls (K : PySem.W.Frag) (C : Addr) : Prop where
  ha : PySem.W.findIn K (.ref C) "__class__" = some (some (.builtin "object.__class__"))
  hn : PySem.W.specialIn K (.builtin "object.__class__") "__get__" = some (some (.builtin "getset_descriptor.__get__"))
  htk : PySem.W.takesIn K (.builtin "object.__class__") = some true
  hm : PySem.W.mroIn K C (.type "object") = some true
  k : PySem.W.kitOne K (.ref C) (.ref C) = some true
  kl : PySem.W.kitOne K (.type "list") (.ref C) = some false
  sl : PySem.W.subIn K (.type "list") (.ref C) = some false
section
variable {K : PySem.W.Frag} {C : Addr} {ns : List Str} {xs : List D}
theorem rc_isiOwn (o : OwnCls K C) (cl : Cls K C) : Rc K (rIsi K) [.obj C ns xs, .cls C] (.bl true) := fun G H vs s r Q t => by
  cases r with
  | cons r r' => cases r' with
    | cons r1 r2 =>
      cases r2
      cases r1
      cases r with
      | obj e _ _ => exact ⟨_, _, _, _, true, rfl, .own C, .base (.ins (s _ _ e) cl o.ha o.hn o.htk o.hm), o.k, t.same s (.bl true)⟩
theorem rc_isiOwnL (o : OwnCls K C) : Rc K (rIsi K) [.lst xs, .cls C] (.bl false) := fun G H vs s r Q t => by
  cases r with
  | cons r r' => cases r' with
    | cons r1 r2 =>
      cases r2
      cases r1
      cases r with
      | lst e _ => exact ⟨_, _, _, _, false, rfl, .own C, .base (.lst (s _ _ e)), o.kl, t.same s (.bl false)⟩
theorem rb_ownEq {α : Type} {args : α → List D} {pre : α → Prop} {res : α → Res} {E : XK} {a : α} {y : D} {b : Bool} (o : OwnCls K C) (hy : (∃ ns ys, y = .obj C ns ys) ∨ ∃ ys, y = .lst ys) (hx : [.obj C ns xs, y] = args a) (hp : pre a) (hr : res a = .ok (.bl b)) : Rb K (rOwnEq K C (spA K args pre res) E) (.obj C ns xs) y (.bl b) := fun G H v w s r1 r2 Q t => by
  have go : ∀ v : V, Rep K G v (.obj C ns xs) → spA K args pre res [v, w] H (fun v H' => (∃ b, v = .bl b) ∧ Q v H') E := fun v r1 => ⟨G, a, s, by rw [← hx]; exact .cons r1 (.cons r2 .nil), hp, fun d hd u G1 H1 e1 s1 ru => by
    rw [hr] at hd; cases hd
    cases ru
    exact ⟨⟨b, rfl⟩, t _ G1 H1 e1 s1 (.bl b)⟩, fun C o z => by rw [hr] at z; cases z⟩
  have g := go v r1
  cases r1 with
  | obj e _ _ =>
    refine ⟨_, _, _, rfl, s _ _ e, ?_, g⟩
    rcases hy with ⟨ns', ys, rfl⟩ | ⟨ys, rfl⟩
    · cases r2 with
      | obj e2 _ _ => exact .inl ⟨_, _, _, rfl, s _ _ e2⟩
    · cases r2 with
      | lst e2 _ => exact .inr ⟨_, ⟨_, _, rfl, s _ _ e2, rfl⟩, o.sl⟩
end
theorem kit_self {K : PySem.W.Frag} {C : Addr} : PySem.W.kitOne K (.ref C) (.ref C) = some true := by
  unfold PySem.W.kitOne
  rw [if_pos (by simp)]
theorem kit_not {K : PySem.W.Frag} {C : Addr} {n : String} (h1 : PySem.W.isClsIn K C = true) (h2 : PySem.W.typeIn K (.ref C) = some (.type "type")) (h3 : PySem.W.subIn K (.type n) (.ref C) = some false) : PySem.W.kitOne K (.type n) (.ref C) = some false := by
  unfold PySem.W.kitOne
  rw [if_neg (by simp)]
  have h1' : (PySem.W.clsIn K C).isSome = true := h1
  show (if ((PySem.W.clsIn K C).isSome && PySem.W.typeIn K (.ref C) == some (.type "type")) = true then PySem.W.subIn K (.type n) (.ref C) else none) = _
  rw [h1', h2, h3]
  simp
end Dl

/-! Dt: try around what makes an instance. -/
namespace Dl
open PySem L2 Evl PySem.Spec PyProof.Rows
section
variable {X : Cx} {CX : CXT} {k : Nat} {f C : Addr} {fd : FuncData} {ps : List Str} {sp : Sp} {x m : Str} {p pos apos : Pos} {e o : Expr} {es : List Expr} {ta : TE} {t : TA}
theorem run_makeS {pins : List (Addr × Obj)} {σ : L2.St} {H : Hp} {s : Shared} {Q : VK} {us : List Value} {vs : List V} {E : XK} (M : Mk X.K C f) (F : FnOk X.prog X.w X.K X.mg X.base CX k f fd ps sp) (hr : Room (k + 1) X.A) (hb : Binds X.K fd ps [])
    (hx : PassesAt CX X σ E) (I : Inv X pins σ H s) (r : Vals vs us)
    (h : ∀ x dx, H x = none → H dx = none → dx ≠ x → sp (.ref x :: (vs ++ [])) (upd (upd H dx (.own x)) x (.ins C dx [])) (fun v H2 => v = .non ∧ Q (.ref x) H2) E) :
    wpAny (model X.prog X.w) X.A (call (.ref C) us) (EP X pins σ Q) X.xe s := by
  have hq := h (s.heap.objs.size + 1) s.heap.objs.size (I.hok.fresh (Nat.le_succ _)) (I.hok.fresh (Nat.le_refl _)) (Nat.ne_of_lt (Nat.lt_succ_self _))
  have I2 := Inv.made (C := C) I
  have r2 : Vals (V.ref (s.heap.objs.size + 1) :: (vs ++ [])) (Value.ref (s.heap.objs.size + 1) :: (us ++ [])) := .cons rfl (r.append .nil)
  have hl : (Value.ref (s.heap.objs.size + 1) :: us ++ []).length = ps.length := by
    have e := r2.length
    rw [F.len _ _ _ _ hq] at e
    exact e.symm
  refine wpAny_call (make_map (f := f) I.kIn M.makes M.init (beq_iff_eq.mp M.fn) (codeAny_mono (F.run _ X.stack _ _ ⟨Value.ref (s.heap.objs.size + 1) :: us, []⟩ (Value.ref (s.heap.objs.size + 1) :: (us ++ [])) _ _ E (hr.make C us [])
    (I2.env0.make C us []) (by
      have q := hb _ (Value.ref (s.heap.objs.size + 1) :: us) I2.kIn hl
      simp only [List.append_nil] at q ⊢
      exact q) r2 hq) fun r s' hq' => ?_))
  cases r with
  | error e => exact hx pins _ _ e s' I2 hq'
  | ok fl =>
    cases fl with
    | ret u =>
      obtain ⟨v, H', I3, rv, ev, q3⟩ := I2.after hq'
      subst ev
      exact ⟨rv, ⟨V.ref (s.heap.objs.size + 1), H', I3, rfl, q3⟩⟩
    | next => exact False.elim hq'
    | brk => exact False.elim hq'
    | cont => exact False.elim hq'
def tMakeS (C : Addr) (sp : Sp) (E : L2.St → XK) (t : TA) : TE := fun σ H Q => tMake C sp [] (E σ) t σ H Q
theorem pe_makeHS {E : L2.St → XK} (h : OkI X.prog X.w X.K X.mg X.base CX k C ps sp) (hm : X.mg x = some (.ref C)) (hr : Room (k + 1) X.A) (hg : Gl X x) (hx : ∀ σ, PassesAt CX X σ (E σ)) (ha : PA X (e :: es) t) (hdb : (x == ("__debug__" : Str)) = false := by decide)
    (he : starEach (e :: es) X.env = (false, eval e X.env) :: starEach es X.env := by rfl) (hpl : (backTo pos (starEach es X.env)).any (·.1) = false := by rfl) : PE X (.Call (.Name x p) (e :: es) [] pos) (tMakeS C sp E t) := by
  obtain ⟨f, fd, F, M, b⟩ := h.ex
  refine ⟨fun pins s σ H Q I h => ?_⟩
  refine wpAny_Call_Name_kw (ld_glob I hg hm ?_ hdb)
  refine PySem.W.callWith_K (h₀ := X.base) I.ok.mod.kin M.kp (thn (ha.run pos pins s σ H _ I h) fun us s1 ⟨vs, H1, I1, r, q⟩ => ⟨I1.kIn, ?_⟩) he hpl
  exact run_makeS M F hr b (hx σ) I1 r q
theorem pe_callHS {E : L2.St → XK} (h : Ok X.prog X.w X.K X.mg X.base CX k x ps sp) (hr : Room k X.A) (hg : Gl X x) (hx : ∀ σ, PassesAt CX X σ (E σ)) (ha : PA X (e :: es) t) (hdb : (x == ("__debug__" : Str)) = false := by decide)
    (he : starEach (e :: es) X.env = (false, eval e X.env) :: starEach es X.env := by rfl) (hpl : (backTo pos (starEach es X.env)).any (·.1) = false := by rfl) : PE X (.Call (.Name x p) (e :: es) [] pos) (tCallS sp E t) := by
  obtain ⟨f, fd, G, hm, kp, b⟩ := h.ex
  exact pe_callS G hr hg hm kp b hx ha hdb he hpl
end
section
variable {α : Type} {args : α → List D} {pre : α → Prop} {res : α → Mkr} {c : Ctx} {ds : Fm} {ta : TA} {a : α} {C : Addr} {xs : List D} {n : DE} {cv : Value} {ts : Addr → Value → Option Addr → TS} {Wout : WX}
theorem st_try_make (h : Ea c ta ds xs) (hx : xs = args a) (hp : pre a) (h1 : ∀ ns ys, res a = .ok ns ys → n.nx ds)
    (h2 : ∀ C', res a = .err C' → PySem.W.exmOne c.K (.ref C') cv = some true ∧ ∀ p, St c (ts p (.ref C') none) n ds) : St c (fun D σ H => tDrop (tMakeS C (spI c.K C args pre res) (WE (wOnly c.K cv ts Wout D)) ta) D σ H) n ds := fun G H σ at' E l =>
  h G H σ at' _ fun vs G1 H1 e1 s1 r1 => by
    subst hx
    refine mk_run (fun _ H2 => E.nx σ H2) s1 r1 hp (fun ns' ys' z x G2 H2 e2 s2 r2 => l.nx G2 H2 σ ds (e1.trans e2.all).s (at'.go (e1.trans e2.all) s2) (h1 _ _ z)) (fun C' z G2 H2 e2 s2 => ?_)
    obtain ⟨k1, k2⟩ := h2 C' z
    exact ⟨true, k1, fun _ p _ => k2 p G2 H2 σ (at'.go (e1.trans e2.all) s2) E (l.go (e1.trans e2.all).s), fun z => nomatch z⟩
end
section
variable {α : Type} {args : α → List D} {pre : α → Prop} {res : α → Res} {c : Ctx} {ds : Fm} {ta : TA} {a : α} {xs : List D} {n : DE} {cv : Value} {ts : Addr → Value → Option Addr → TS} {Wout : WX}
theorem st_try_call (h : Ea c ta ds xs) (hx : xs = args a) (hp : pre a) (h1 : ∀ d, res a = .ok d → n.nx ds)
    (h2 : ∀ C' o, res a = .err C' o → o = none ∧ PySem.W.exmOne c.K C' cv = some true ∧ ∀ p, St c (ts p C' none) n ds) : St c (fun D σ H => tDrop (tCallS (spA c.K args pre res) (WE (wOnly c.K cv ts Wout D)) ta) D σ H) n ds := fun G H σ at' E l =>
  h G H σ at' _ fun vs G1 H1 e1 s1 r1 => by
    subst hx
    refine ⟨G1, a, s1, r1, hp, fun d' hd u G2 H2 e2 s2 r2 => l.nx G2 H2 σ ds (e1.trans e2.all).s (at'.go (e1.trans e2.all) s2) (h1 d' hd), fun C' o z G2 H2 e2 s2 => ?_⟩
    obtain ⟨rfl, k1, k2⟩ := h2 C' o z
    exact ⟨true, k1, fun _ p _ => k2 p G2 H2 σ (at'.go (e1.trans e2.all) s2) E (l.go (e1.trans e2.all).s), fun z => nomatch z⟩
end
section
variable {K : PySem.W.Frag} {c : Ctx} {ds : Fm} {n : DE} {ta tb : TE} {xs ys : List D} {i : Nat}
theorem rb_mulT {j : Int} (h0 : xs ≠ []) (h1 : 2 ≤ j) (h2 : j ≤ 1000) (h3 : xs.length ≤ 1000) : Rb K (rMulG K) (.tup xs) (.int j) (.tup (List.replicate j.toNat xs).flatten) := fun G H v w s r1 r2 Q t => by
  cases r2
  cases r1 with
  | @tup a vs ds e q =>
    have hr : ∀ m : Nat, Reps K G (List.replicate m vs).flatten (List.replicate m xs).flatten := fun m => by
      induction m with
      | zero => exact .nil
      | succ m ih => rw [List.replicate_succ, List.replicate_succ, List.flatten_cons, List.flatten_cons]; exact q.app ih
    exact .inr (.inr (.inr (.inr ⟨a, j, vs, rfl, rfl, ex_t s e, fun z => h0 (by have := q.len; rw [z] at this; cases xs with | nil => rfl | cons => simp at this), h1, h2, by rw [q.len]; exact h3, t.tup s (hr _)⟩)))
theorem ru_neg {i : Int} : Ru K (rU fun i => .int (-i)) (.int i) (.int (-i)) := fun G H v s r Q t => by
  cases r
  exact ⟨i, rfl, t.same s (.int _)⟩
theorem new_own {G1 H1 : Hp} {σ : L2.St} {vs : List V} {p : Addr} (a1 : At c G1 H1 σ ds) (s1 : Ex G1 H1) (r1 : Reps c.K G1 vs xs) (hp : H1 p = none) (hi : i < ds.length) :
    Ext c.l G1 H1 G1 (upd H1 p (.lst vs)) ∧ At c G1 (upd H1 p (.lst vs)) (σ.set i (some (.ref p))) (ds.set i (.own xs)) := by
  have hg : G1 p = none := sub_none s1 hp
  have e2 : Ext c.l G1 H1 G1 (upd H1 p (.lst vs)) := Ext.refl.mut hp
  have a2 := a1.go e2 (sub_hid s1 hg)
  have hne : NotL c.l p := fun y z => (a1.lk p y z).1 hp
  refine ⟨e2, a2.sub, a2.fr.own hi hg upd_same r1 hne (fun w => a1.tr p w hp) (fun b z => (a1.lk b p z).2.2 hp) fun j ys hj e => ?_, a2.lk, a2.tr⟩
  obtain ⟨b, ws, q1, _, q3, _⟩ := a1.fr.ok j _ hj
  rw [e] at q1
  have q : V.ref p = V.ref b := Option.some.inj (Option.some.inj q1)
  cases q
  rw [hp] at q3; cases q3
/-- x = a + b, lists: a list of the frame's own -/
theorem st_ownAdd (ha : Ee c ta ds (.lst xs)) (hb : Ee c tb ds (.lst ys)) (hz : xs.length + ys.length ≤ 1000000) (hi : i < ds.length) (k : n.nx (ds.set i (.own (xs ++ ys)))) : St c (tAsg (tOp (rAddG c.K) ta tb) (gName i)) n ds := fun G H σ a E l =>
  ha G H σ a _ fun v G1 H1 e1 s1 r1 => hb G1 H1 σ (a.go e1 s1) _ fun w G2 H2 e2 s2 r2 => by
    have r1' := r1.mono e2.g
    cases r1' with
    | lst f1 q1 => cases r2 with
      | lst f2 q2 =>
        refine .inr (.inr (.inl ⟨_, _, _, _, rfl, rfl, s2 _ _ f1, s2 _ _ f2, by rw [q1.len, q2.len]; exact sz_of hz, fun p hp => ?_⟩))
        obtain ⟨e3, a3⟩ := new_own (i := i) (a.go (e1.trans e2) s2) s2 (q1.app q2) hp hi
        exact l.nx G2 _ _ _ ((e1.trans e2).trans e3).s a3 k
end
theorem upto_get {j : Int} {i : Nat} {d : D} (h : (upto j)[i]? = some d) : d = .int (i : Nat) ∧ (i : Int) < j := by
  have hlt := (List.getElem?_eq_some_iff.mp h).1
  rw [upto_len] at hlt
  unfold upto at h
  rw [List.getElem?_map, List.getElem?_range hlt] at h
  exact ⟨(Option.some.inj h).symm, by omega⟩
end Dl

/-! Dm: lists of two clauses; max, min; list(range). -/
namespace Dl
open PySem L2 Evl PySem.Spec PyProof.Rows
structure Ew (l : Option (Addr × Addr)) (G H G1 H1 : Hp) : Prop where
  g : Ex G G1
  n : ∀ b, H b ≠ none → G b = none → G1 b = none
  t : ∀ b, H b ≠ none → H1 b ≠ none
  dr : ∀ b a, l = some (b, a) → DrawsOk H b a → DrawsOk H1 b a
theorem Ext.w {l : Option (Addr × Addr)} {G H G1 H1 : Hp} (e : Ext l G H G1 H1) : Ew l G H G1 H1 := ⟨e.g, e.n, e.t, e.dr⟩
theorem Ew.trans {l : Option (Addr × Addr)} {G H G1 H1 G2 H2 : Hp} (a : Ew l G H G1 H1) (b : Ew l G1 H1 G2 H2) : Ew l G H G2 H2 :=
  ⟨a.g.trans b.g, fun x e q => b.n x (a.t x e) (a.n x e q), fun x e => b.t x (a.t x e), fun x y e q => b.dr x y e (a.dr x y e q)⟩
def flatS : Sl → Bool
  | .no => true
  | .v _ => true
  | .drw => true
  | _ => false
theorem At.keep {c : Ctx} {G H G1 H1 : Hp} {σ : L2.St} {ds : Fm} (a : At c G H σ ds) (pl : ds.all flatS = true) (e : Ew c.l G H G1 H1) (s : Ex G1 H1) : At c G1 H1 σ ds := by
  refine ⟨s, ⟨a.fr.len, fun i x h => ?_, a.fr.ap⟩, fun b y hb => ⟨e.t b (a.lk b y hb).1, e.n b (a.lk b y hb).1 (a.lk b y hb).2.1, e.t y (a.lk b y hb).2.2⟩, fun b hb => e.t b (a.tr b hb)⟩
  have o := a.fr.ok i x h
  have p := List.all_eq_true.mp pl x (List.mem_of_getElem? h)
  cases x with
  | no => trivial
  | v d => obtain ⟨u, h1, h2⟩ := o; exact ⟨u, h1, h2.mono e.g⟩
  | drw =>
    obtain ⟨b, y, h1, h2, h3, h4⟩ := o
    exact ⟨b, y, h1, h2, e.n b (a.lk b y h1).1 h3, e.dr b y h1 h4⟩
  | own _ => cases p
  | self _ _ _ _ _ => cases p
  | rdr _ _ _ _ _ _ _ => cases p
section
variable {c : Ctx} {ds : Fm} {te : TE} {g g1 : TG} {xs ys : List D} {wi wi1 : TI} {vs vs1 js js1 : List Nat}
/-- [f(x, y) for x in xs for y in ys]: out i is what stands behind i turns of the first clause -/
theorem ee_lc2 {f : D → D → D} (hi : Ei c wi ds xs) (hz : xs.length * ys.length ≤ 900000) (hv : ∀ j ∈ js, j ∈ vs) (hv1 : ∀ j ∈ js1, j ∈ vs1)
    (hs : ∀ (i : Nat) x, xs[i]? = some x → ∃ ds2, Eg c g x (wipeD ds vs) ds2 js ∧ ds2.all flatS = true ∧ Ei c wi1 ds2 ys ∧ ∀ (k : Nat) y, ys[k]? = some y → ∃ ds3, Eg c g1 y (wipeD ds2 vs1) ds3 js1 ∧ Ee c te ds3 (f x y)) :
    Ee c (tLc2 wi g tYes wi1 g1 tYes te vs vs1) ds (.lst (xs.flatMap fun x => ys.map (f x))) := fun G0 H0 σ at' Q q => hi G0 H0 σ at' _ fun J G1 H1 e1 s1 it => by
  intro Dl hDl
  have at1 : At c G1 H1 σ ds := at'.go e1 s1
  have hg1 : G1 Dl = none := sub_none s1 hDl
  have hne : NotL c.l Dl := fun y z => (at1.lk Dl y z).1 hDl
  let P : List D → Hp → Prop := fun out H => ∃ G zs, Ext c.l G1 H1 G H ∧ Ex G H ∧ G Dl = none ∧ H Dl = some (.lst zs) ∧ Reps c.K G zs out
  let out : Nat → List D := fun i => (xs.take i).flatMap fun x => ys.map (f x)
  have olen : ∀ i, (out i).length = (xs.take i).length * ys.length := fun i => by
    simp only [out, List.length_flatMap, List.length_map, List.map_const', List.sum_replicate_nat]
  refine ⟨fun i m H => i ≤ xs.length ∧ m = xs.length - i ∧ P (out i) H, ⟨xs.length, Nat.zero_le _, rfl, G1, [], Ext.refl.mut hDl, sub_hid s1 hg1, hg1, upd_same, .nil⟩, ?_⟩
  rintro i m H ⟨il, rfl, G, zs, eg, sb, gd, hd, rp⟩
  by_cases hlt : i < xs.length
  · refine .inr ⟨it.go i G H eg.g sb hlt, P (out (i + 1)), fun H' p => ⟨xs.length - (i + 1), by omega, hlt, rfl, p⟩, fun x H' y => ?_⟩
    obtain ⟨d, G2, hd', ex, sb2, rx⟩ := it.yld i G H x H' eg.g sb hlt y
    obtain ⟨ds2, hg, hpl, hi1, hb⟩ := hs i d hd'
    have e2 : Ext c.l G1 H1 G2 H' := eg.trans ex.all
    have at2 : At c G2 H' (wipe σ vs) (wipeD ds vs) := (at1.go e2 sb2).wipe vs
    have osucc : out (i + 1) = out i ++ ys.map (f d) := by
      simp only [out]; rw [List.take_succ, List.flatMap_append, hd']; simp
    refine hg G2 H' _ x at2 rx _ fun σ2 a2 len2 keep => ⟨wipe_same (by rw [len2, wipe_length]) fun k hk => keep k fun z => hk (hv k z), ?_⟩
    show tYes σ2 H' _
    refine hi1 G2 H' σ2 a2 _ fun J1 G3 H3 e3 s3 it1 => ?_
    have hHD : H' Dl = some (.lst zs) := ex.h Dl _ (fun _ z => nomatch z) hd
    have hGD : G2 Dl = none := ex.n Dl (by rw [hd]; simp) gd
    have hHD3 : H3 Dl = some (.lst zs) := e3.h Dl _ hne hHD
    have hGD3 : G3 Dl = none := e3.n Dl (by rw [hHD]; simp) hGD
    let P1 : Nat → Hp → Prop := fun j H => ∃ G zs, Ext c.l G1 H1 G H ∧ Ew c.l G3 H3 G H ∧ Ex G H ∧ G Dl = none ∧ H Dl = some (.lst zs) ∧ Reps c.K G zs (out i ++ (ys.take j).map (f d))
    have at3 : At c G3 H3 σ2 ds2 := a2.go e3 s3
    refine ⟨fun j m H => j ≤ ys.length ∧ m = ys.length - j ∧ P1 j H, ⟨ys.length, Nat.zero_le _, rfl, G3, zs, e2.trans e3, Ext.refl.w, s3, hGD3, hHD3, by
      rw [List.take_zero, List.map_nil, List.append_nil]; exact rp.mono (ex.g.trans e3.g)⟩, ?_⟩
    rintro j m H ⟨jl, rfl, G4, zs4, f4, e4, s4, g4, h4, r4⟩
    by_cases hj : j < ys.length
    · refine .inr ⟨it1.go j G4 H e4.g s4 hj, P1 (j + 1), fun H' p => ⟨ys.length - (j + 1), by omega, hj, rfl, p⟩, fun y H5 yy => ?_⟩
      obtain ⟨d1, G5, hd1, ex5, sb5, ry⟩ := it1.yld j G4 H y H5 e4.g s4 hj yy
      obtain ⟨ds3, hg1, he⟩ := hb j d1 hd1
      have e5 : Ew c.l G3 H3 G5 H5 := e4.trans ex5.all.w
      have at5 : At c G5 H5 (wipe σ2 vs1) (wipeD ds2 vs1) := (at3.keep hpl e5 sb5).wipe vs1
      refine hg1 G5 H5 _ y at5 ry _ fun σ3 a3 len3 keep3 => ⟨wipe_same (by rw [len3, wipe_length]) fun k hk => keep3 k fun z => hk (hv1 k z), ?_⟩
      show tYes σ3 H5 _
      refine he G5 H5 σ3 a3 _ fun v G6 H6 e6 s6 r6 => ?_
      have h5D : H5 Dl = some (.lst zs4) := ex5.h Dl _ (fun _ z => nomatch z) h4
      have n1 : G6 Dl = none := e6.n Dl (by rw [h5D]; simp) (ex5.n Dl (by rw [h4]; simp) g4)
      have n2 : H6 Dl = some (.lst zs4) := e6.h Dl _ hne h5D
      refine ⟨zs4, n2, sz_lt ?_, G6, zs4 ++ [v], ((f4.trans ex5.all).trans e6).mut hDl, ⟨(e5.trans e6.w).g, (e5.trans e6.w).n, fun b hb => ?_, fun b a hb q => ?_⟩, sub_hid s6 n1, n1, upd_same, ?_⟩
      · rw [r4.len, List.length_append, olen, List.length_map, List.length_take, List.length_take]
        have h1 : min i xs.length = i := by omega
        have h2 : min j ys.length = j := by omega
        rw [h1, h2]
        have : (i + 1) * ys.length ≤ xs.length * ys.length := Nat.mul_le_mul_right _ hlt
        rw [Nat.succ_mul] at this
        omega
      · by_cases z : b = Dl
        · subst z; rw [upd_same]; simp
        · rw [upd_ne z]; exact (e5.trans e6.w).t b hb
      · obtain ⟨ns, i1, i2, i3, k1, k2, r⟩ := (e5.trans e6.w).dr b a hb q
        have l1 := at1.lk b a hb
        exact ⟨ns, i1, i2, i3, by rw [upd_ne (fun z => l1.1 (by rw [z]; exact hDl))]; exact k1, by rw [upd_ne (fun z => l1.2.2 (by rw [z]; exact hDl))]; exact k2, r⟩
      · have st : (ys.take (j + 1)).map (f d) = (ys.take j).map (f d) ++ [f d d1] := by
          rw [List.take_succ, List.map_append, hd1]; rfl
        rw [st, ← List.append_assoc]
        exact (r4.mono (ex5.g.trans e6.g)).app (.cons r6 .nil)
    · have ej : j = ys.length := by omega
      subst ej
      refine .inl ⟨it1.stop G4 H e4.g s4, G4, zs4, f4, s4, g4, h4, ?_⟩
      rw [osucc]
      rw [List.take_of_length_le (Nat.le_refl _)] at r4
      exact r4
  · have e : i = xs.length := by omega
    subst e
    have eo : out xs.length = xs.flatMap fun x => ys.map (f x) := by simp only [out]; rw [List.take_of_length_le (Nat.le_refl _)]
    rw [eo] at rp
    refine .inl ⟨it.stop G H eg.g sb, q _ (upd G Dl (.lst zs)) H ⟨eg.g.trans (Ex.new gd) |> e1.g.trans, (e1.trans eg).h, fun b hb hn => ?_, (e1.trans eg).t, (e1.trans eg).dr⟩ (fun b u e => ?_) (.lst upd_same (rp.mono (Ex.new gd)))⟩
    · have h1 : H1 b ≠ none := e1.t b hb
      rw [upd_ne (fun z => h1 (by rw [z]; exact hDl))]
      exact (e1.trans eg).n b hb hn
    · by_cases hb : b = Dl
      · subst hb; rw [upd_same] at e; rw [hd, e]
      · rw [upd_ne hb] at e; exact sb b u e
end
/-- list(range(n)) -/
theorem rg_reps {K : PySem.W.Frag} {G : Hp} (n : Nat) : Reps K G (rgV 0 (n : Int)) (upto (n : Int)) := by
  unfold rgV upto
  have : ∀ l : List Nat, Reps K G (l.map fun i : Nat => V.int (0 + (i : Int))) (l.map fun i : Nat => D.int (i : Int)) := fun l => by
    induction l with
    | nil => exact .nil
    | cons x l ih => exact .cons (by show Rep K G (.int (0 + (x : Int))) (.int (x : Int)); rw [Int.zero_add]; exact .int _) ih
  rw [Int.sub_zero]
  exact this _
theorem ee_listRg {c : Ctx} {ds : Fm} {te : TE} {n : Nat} (h : Ee c te ds (.int (n : Nat))) (hn : n ≤ 1000000) : Ee c (tLstRg (tRg1 te)) ds (.lst (upto (n : Int))) := fun G H σ a Q q =>
  h G H σ a _ fun v G1 H1 e1 s1 r1 => by
    cases r1
    exact ⟨(n : Int), rfl, RgOk.of_le (Int.le_refl _) (by omega) (by decide) (by omega), Then.lst (fun u G3 H3 e3 s3 r3 => q u G3 H3 (e1.trans e3.all) s3 r3) s1 (rg_reps n)⟩
/-- max of a list of numbers that are not below 0 -/
def maxN (l : List Nat) : Nat := l.foldr max 0
theorem le_maxN : ∀ {l : List Nat} {x : Nat}, x ∈ l → x ≤ maxN l
  | y :: l, x, h => by
    rcases List.mem_cons.mp h with rfl | h
    · exact Nat.le_max_left _ _
    · exact Nat.le_trans (le_maxN h) (Nat.le_max_right _ _)
theorem maxN_mem : ∀ {l : List Nat}, l ≠ [] → maxN l ∈ l
  | [x], _ => by simp [maxN]
  | x :: y :: l, _ => by
    have ih := maxN_mem (l := y :: l) (by simp)
    show max x (maxN (y :: l)) ∈ _
    rcases Nat.le_total x (maxN (y :: l)) with h | h
    · rw [Nat.max_eq_right h]; exact List.mem_cons_of_mem _ ih
    · rw [Nat.max_eq_left h]; exact List.mem_cons_self
theorem rc_maxN {K : PySem.W.Frag} {l : List Nat} (h : l ≠ []) : Rc K (rMax K) [.lst (l.map fun n : Nat => .int (n : Int))] (.int (maxN l : Nat)) := fun G H vs s r Q t => by
  cases r with
  | cons r1 r2 =>
    cases r2
    cases r1 with
    | @lst a ws ds e q =>
      have q' : Reps K G ws ((l.map fun n : Nat => (n : Int)).map D.int) := by rw [List.map_map]; exact q
      have hv := q'.ints
      subst hv
      refine ⟨a, l.map fun n : Nat => (n : Int), rfl, SqL.of (s _ _ e), by rw [List.length_map]; cases l with | nil => exact absurd rfl h | cons => simp, fun m hm hb => ?_⟩
      have em : m = (maxN l : Nat) := by
        obtain ⟨x, hx, rfl⟩ := List.mem_map.mp hm
        have h1 := le_maxN hx
        have h2 := hb _ (List.mem_map.mpr ⟨_, maxN_mem h, rfl⟩)
        omega
      rw [em]
      exact t.same s (.int _)
end Dl

/-! Do: the order of bits. -/
namespace Dl
open PySem L2 Evl PySem.Spec PyProof.Rows
/-- the order of texts of bits -/
def blt : List Bool → List Bool → Bool
  | [], [] => false
  | [], _ :: _ => true
  | _ :: _, [] => false
  | a :: x, b :: y => if a = b then blt x y else b
theorem blt_lt : ∀ {x y : List Bool}, blt x y = true ↔ x.map sg < y.map sg
  | [], [] => by simp [blt]
  | [], b :: y => by simp [blt]
  | a :: x, [] => by simp [blt]
  | a :: x, b :: y => by
    have ih := @blt_lt x y
    rw [List.map_cons, List.map_cons, List.cons_lt_cons_iff]
    unfold blt
    cases a <;> cases b <;> simp [sg, ih]
theorem rb_ltB {K : PySem.W.Frag} {a b : List Bool} : Rb K rLtG (.str (bs a)) (.str (bs b)) (.bl (blt a b)) := by
  have h := rb_ltS (K := K) (i := bs a) (j := bs b)
  have e : decide ((bs a).cps.toList < (bs b).cps.toList) = blt a b := by
    rw [Bool.eq_iff_iff, blt_lt, bs_cps, bs_cps]; simp
  rw [e] at h
  exact h
theorem blt_app (p x y : List Bool) : blt (p ++ x) (p ++ y) = blt x y := by
  induction p with
  | nil => rfl
  | cons b p ih => simp [blt, ih]
/-- heads that don't begin one another decide -/
theorem blt_heads : ∀ {a b : List Bool} (x y : List Bool), ¬ a <+: b → ¬ b <+: a → blt (a ++ x) (b ++ y) = blt a b
  | [], b, x, y, h, _ => absurd (List.nil_prefix) h
  | a :: p, [], x, y, _, h => absurd (List.nil_prefix) h
  | a :: p, b :: q, x, y, h1, h2 => by
    show (if a = b then blt (p ++ x) (q ++ y) else b) = if a = b then blt p q else b
    by_cases e : a = b
    · subst e
      rw [if_pos rfl, if_pos rfl]
      exact blt_heads x y (fun z => h1 (List.cons_prefix_cons.mpr ⟨rfl, z⟩)) (fun z => h2 (List.cons_prefix_cons.mpr ⟨rfl, z⟩))
    · rw [if_neg e, if_neg e]
theorem blt_snoc : ∀ {x y : List Bool} (a b : Bool), x.length = y.length → blt (x ++ [a]) (y ++ [b]) = (blt x y || (decide (x = y) && (!a && b)))
  | [], [], a, b, _ => by cases a <;> cases b <;> rfl
  | c :: x, d :: y, a, b, h => by
    have ih := blt_snoc a b (show x.length = y.length by simpa using h)
    show (if c = d then blt (x ++ [a]) (y ++ [b]) else d) = ((if c = d then blt x y else d) || _)
    by_cases e : c = d
    · subst e; rw [if_pos rfl, if_pos rfl, ih]; simp
    · rw [if_neg e, if_neg e]
      have : ¬ (c :: x = d :: y) := fun z => e (by injection z)
      rw [decide_eq_false this]; simp
  | [], _ :: _, a, b, h => by simp at h
  | _ :: _, [], a, b, h => by simp at h
theorem plc_lt : ∀ (k v w : Nat), v < w → w < 2 ^ k → blt (CodeM.plc v k) (CodeM.plc w k) = true
  | 0, v, w, h, h2 => by simp at h2; omega
  | k + 1, v, w, h, h2 => by
    show blt (CodeM.plc (v / 2) k ++ [v % 2 == 1]) (CodeM.plc (w / 2) k ++ [w % 2 == 1]) = true
    rw [blt_snoc _ _ (by rw [CodeM.plc_len, CodeM.plc_len])]
    rcases Nat.lt_or_ge (v / 2) (w / 2) with z | z
    · rw [plc_lt k _ _ z (by rw [Nat.pow_succ] at h2; omega)]; rfl
    · have e : v / 2 = w / 2 := by omega
      rw [e]
      have h3 : v % 2 = 0 := by omega
      have h4 : w % 2 = 1 := by omega
      rw [h3, h4]; simp
namespace CodeM
variable {c : CodeM}
/-- the question about row r -/
def up (c : CodeM) (r : Nat) : Bool := blt (c.head r) (c.head (r + 1))
theorem up_tail (i : Nat) : c.up (c.rows.length + i) = c.up c.rows.length := by
  induction i with
  | zero => rfl
  | succ i ih =>
    rw [← ih]
    have h : ∀ j, c.head (c.rows.length + j) = rep c.again j ++ c.stop := fun j => by unfold head; rw [row_tail]
    unfold up
    have e1 : c.rows.length + (i + 1) + 1 = c.rows.length + (1 + (i + 1)) := by omega
    have e2 : c.rows.length + (i + 1) = c.rows.length + (1 + i) := by omega
    have e3 : c.rows.length + i + 1 = c.rows.length + (i + 1) := by omega
    rw [e1, e2, e3, h, h, h, h, rep_add, rep_add c.again 1 (i + 1), List.append_assoc, List.append_assoc, blt_app]
/-- the least row whose head isn't less than the next one's -/
def IsLeast (c : CodeM) : Option Nat → Prop
  | none => ∀ r, c.up r = true
  | some r => c.up r = false ∧ ∀ s, s < r → c.up s = true
theorem least_uniq : ∀ {o p : Option Nat}, c.IsLeast o → c.IsLeast p → o = p
  | none, none, _, _ => rfl
  | none, some r, h, g => by have := h r; rw [g.1] at this; cases this
  | some r, none, h, g => by have := g r; rw [h.1] at this; cases this
  | some r, some s, h, g => by
    rcases Nat.lt_trichotomy r s with z | z | z
    · have := g.2 r z; rw [h.1] at this; cases this
    · rw [z]
    · have := h.2 s z; rw [g.1] at this; cases this
theorem least_ex (c : CodeM) : ∃ o, c.IsLeast o := by
  refine Classical.byContradiction fun h => h ⟨none, fun r => ?_⟩
  induction r using Nat.strongRecOn with
  | _ r ih =>
    cases e : c.up r with
    | true => rfl
    | false => exact absurd ⟨some r, e, ih⟩ h
noncomputable def least (c : CodeM) : Option Nat := Classical.choose (least_ex c)
theorem least_eq {o : Option Nat} (h : c.IsLeast o) : c.least = o := least_uniq (Classical.choose_spec (least_ex c)) h
theorem least_none {n : Nat} (hn : c.rows.length < n) (h : ∀ r, r < n → c.up r = true) : c.IsLeast none := fun r => by
  rcases Nat.lt_or_ge r n with z | z
  · exact h r z
  · obtain ⟨i, rfl⟩ : ∃ i, r = c.rows.length + i := ⟨r - c.rows.length, by omega⟩
    rw [up_tail]
    exact h _ hn
/-- number n against the next -/
theorem bits_in {n : Nat} (h : n + 1 < c.first (c.rowOf n + 1)) : blt (c.bits n) (c.bits (n + 1)) = true := by
  have h0 := (rowOf_ok (c := c) n).1
  have e : c.rowOf (n + 1) = c.rowOf n := rowOf_eq (by omega) h
  unfold bits
  rw [e, blt_app]
  refine plc_lt _ _ _ (by omega) ?_
  rw [first_succ] at h; omega
end CodeM
def ordD (c : CodeM) (o : Option Nat) : D := match o with
  | none => .non
  | some r => .int ((c.first (r + 1) - 1 : Nat) : Int)
section
variable {α : Type} {args : α → List D} {pre : α → Prop} {res : α → Res} {c : Ctx} {ds : Fm} {ta : TA} {a : α} {xs : List D} {n : DE} {cv : Value} {ts : Addr → Value → Option Addr → TS} {Wout : WX} {i : Nat}
theorem st_try_asg (h : Ea c ta ds xs) (hx : xs = args a) (hp : pre a) (hi : i < ds.length) (h1 : ∀ d, res a = .ok d → n.nx (ds.set i (.v d)))
    (h2 : ∀ C' o, res a = .err C' o → o = none ∧ PySem.W.exmOne c.K C' cv = some true ∧ ∀ p, St c (ts p C' none) n ds) : St c (fun D σ H => tAsg (tCallS (spA c.K args pre res) (WE (wOnly c.K cv ts Wout D)) ta) (gName i) D σ H) n ds := fun G H σ at' E l =>
  h G H σ at' _ fun vs G1 H1 e1 s1 r1 => by
    subst hx
    refine ⟨G1, a, s1, r1, hp, fun d' hd u G2 H2 e2 s2 r2 => l.nx G2 H2 _ _ (e1.trans e2.all).s ((at'.go (e1.trans e2.all) s2).set r2 hi) (h1 d' hd), fun C' o z G2 H2 e2 s2 => ?_⟩
    obtain ⟨rfl, k1, k2⟩ := h2 C' o z
    exact ⟨true, k1, fun _ p _ => k2 p G2 H2 σ (at'.go (e1.trans e2.all) s2) E (l.go (e1.trans e2.all).s), fun z => nomatch z⟩
end
end Dl

/-! De: enumerate. -/
namespace Dl
open PySem L2 Evl PySem.Spec PyProof.Rows
theorem k_enum {X : Cx} (K : PySem.W.Frag) {e : Expr} {ta : TA} {p pos tpos : Pos} {elts : List Expr} {kk : Nat} (hK : X.K = K) (hg : Gl X "enumerate") (hm : X.mg "enumerate" = none) (ha : PA X [e] ta) (hs : starEach [e] X.env = [(false, eval e X.env)] := by rfl) :
    PI X (.Tuple elts kk tpos) (.Call (.Name "enumerate" p) [e] [] pos) (iEnum K ta) := by subst hK; exact pi_enum hg hm ha hs
/-- place and item -/
def enumD (xs : List D) : List D := xs.zipIdx.map fun p => .tup [.int (p.2 : Nat), p.1]
theorem enumD_get {xs : List D} {i : Nat} {d : D} (h : (enumD xs)[i]? = some d) : ∃ x, xs[i]? = some x ∧ d = .tup [.int (i : Nat), x] := by
  unfold enumD at h
  rw [List.getElem?_map, List.getElem?_zipIdx] at h
  cases e : xs[i]? with
  | none => rw [e] at h; cases h
  | some x =>
    rw [e] at h
    refine ⟨x, rfl, ?_⟩
    have := Option.some.inj h
    simp at this
    exact this.symm
theorem enumD_len {xs : List D} : (enumD xs).length = xs.length := by simp [enumD]
theorem ei_enum {c : Ctx} {ds : Fm} {ta : TA} {xs : List D} (h : Ea c ta ds [.lst xs]) : Ei c (iEnum c.K ta) ds (enumD xs) := fun G H σ a R q => h G H σ a _ fun vs G1 H1 e1 s1 r1 => by
  cases r1 with
  | cons r1 r2 =>
    cases r2
    cases r1 with
    | lst e r =>
      refine ⟨_, _, rfl, SqL.of (s1 _ _ e), q _ G1 H1 e1 s1 ⟨fun i G H e1 e2 hi => ?_, fun i G H v H' e1 e2 hi y => ?_, fun G H e1 e2 => ?_⟩⟩
      · rw [enumD_len, ← r.len] at hi
        exact ⟨_, _, SqL.of (e2 _ _ (e1 _ _ e)), List.getElem?_eq_getElem hi⟩
      · obtain ⟨Tt, x, rfl, hT, rfl, hx⟩ := y
        have q := hx _ (SqL.of (e2 _ _ (e1 _ _ e)))
        obtain ⟨d, h1, h2⟩ := r.get q
        have hg := sub_none e2 hT
        refine ⟨.tup [.int (i : Nat), d], upd G Tt (.tup [.int (i : Nat), x]), ?_, Ext.new hT hg, sub_upd e2, .tup (SqT.of upd_same) (.cons (.int _) (.cons (h2.mono (e1.trans (Ex.new hg))) .nil))⟩
        unfold enumD
        rw [List.getElem?_map, List.getElem?_zipIdx, h1]; simp
      · exact ⟨_, SqL.of (e2 _ _ (e1 _ _ e)), by rw [enumD_len, r.len]; exact Nat.le_refl _⟩
end Dl

/-! Dw: lists drawn over walks that are drawn; the last item. -/
namespace Dl
open PySem L2 Evl PySem.Spec PyProof.Rows
section
variable {c : Ctx} {ds : Fm} {te : TE} {g : TG} {P : D → Prop} {R : List D → Prop}
/-- a list whose elements are not determined, over a walk that is not determined -/
theorem enn_lc {wi : TI} {vs js : List Nat} (hi : Eni c wi ds R) (hz : ∀ xs, R xs → xs.length ≤ 1000000) (hv : ∀ j ∈ js, j ∈ vs) (hs : ∀ xs, R xs → ∀ (i : Nat) d, xs[i]? = some d → ∃ ds2, Eg c g d (wipeD ds vs) ds2 js ∧ En c te ds2 P) :
    En c (tLc wi g tYes te vs) ds (fun d => ∃ xs ys : List D, R xs ∧ d = .lst ys ∧ ys.length = xs.length ∧ ∀ y ∈ ys, P y) := fun G0 H0 σ at' Q q => hi G0 H0 σ at' _ fun J xs G1 H1 hR e1 s1 it => by
  intro Dl hDl
  have at1 : At c G1 H1 σ ds := at'.go e1 s1
  have hg1 : G1 Dl = none := sub_none s1 hDl
  have hne : NotL c.l Dl := fun y z => (at1.lk Dl y z).1 hDl
  have hzz := hz xs hR
  let Pv : Nat → Hp → Prop := fun i H => ∃ G ys zs, Ext c.l G1 H1 G H ∧ Ex G H ∧ G Dl = none ∧ H Dl = some (.lst ys) ∧ Reps c.K G ys zs ∧ zs.length = i ∧ ∀ z ∈ zs, P z
  refine ⟨fun i m H => i ≤ xs.length ∧ m = xs.length - i ∧ Pv i H, ⟨xs.length, Nat.zero_le _, rfl, G1, [], [], Ext.refl.mut hDl, sub_hid s1 hg1, hg1, upd_same, .nil, rfl, fun z hz => nomatch hz⟩, ?_⟩
  rintro i m H ⟨il, rfl, G, ys, zs, eg, sb, gd, hd, rp, zl, zP⟩
  by_cases hlt : i < xs.length
  · refine .inr ⟨it.go i G H eg.g sb hlt, Pv (i + 1), fun H' p => ⟨xs.length - (i + 1), by omega, hlt, rfl, p⟩, fun x H' y => ?_⟩
    obtain ⟨d, G2, hd', ex, sb2, rx⟩ := it.yld i G H x H' eg.g sb hlt y
    obtain ⟨ds2, hg, he⟩ := hs xs hR i d hd'
    have e2 : Ext c.l G1 H1 G2 H' := eg.trans ex.all
    have at2 : At c G2 H' (wipe σ vs) (wipeD ds vs) := (at1.go e2 sb2).wipe vs
    refine hg G2 H' _ x at2 rx _ fun σ2 a2 len2 keep => ⟨wipe_same (by rw [len2, wipe_length]) fun k hk => keep k fun z => hk (hv k z), ?_⟩
    refine he G2 H' σ2 a2 _ fun v e G4 H4 pe e4 s4 r4 => ?_
    have h1 : H' Dl = some (.lst ys) := ex.h Dl _ (fun _ z => nomatch z) hd
    have n1 : G4 Dl = none := e4.n Dl (by rw [h1]; simp) (ex.n Dl (by rw [hd]; simp) gd)
    have n2 : H4 Dl = some (.lst ys) := e4.h Dl _ hne h1
    have g4 : Ext c.l G1 H1 G4 H4 := e2.trans e4
    have len : ys.length ≤ i := by rw [rp.len]; omega
    exact ⟨ys, n2, sz_lt (by omega), G4, ys ++ [v], zs ++ [e], g4.mut hDl, sub_hid s4 n1, n1, upd_same, (rp.mono (ex.g.trans e4.g)).app (.cons r4 .nil), by simp [zl], fun z hz => by
      rcases List.mem_append.mp hz with h | h
      · exact zP z h
      · rw [List.mem_singleton.mp h]; exact pe⟩
  · have e : i = xs.length := by omega
    subst e
    refine .inl ⟨it.stop G H eg.g sb, q _ (.lst zs) (upd G Dl (.lst ys)) H ⟨xs, zs, hR, rfl, zl, zP⟩ ⟨eg.g.trans (Ex.new gd) |> e1.g.trans, (e1.trans eg).h, fun b hb hn => ?_, (e1.trans eg).t, (e1.trans eg).dr⟩ (fun b u e => ?_) (.lst upd_same (rp.mono (Ex.new gd)))⟩
    · have h1 : H1 b ≠ none := e1.t b hb
      rw [upd_ne (fun z => h1 (by rw [z]; exact hDl))]
      exact (e1.trans eg).n b hb hn
    · by_cases hb : b = Dl
      · subst hb; rw [upd_same] at e; rw [hd, e]
      · rw [upd_ne hb] at e; exact sb b u e
end
theorem atI_lastM {α : Type} {f : α → D} {xs : List α} {x : α} : atI ((xs ++ [x]).map f) (-1) = some (f x) := by
  unfold atI ixN
  rw [if_neg (by decide), if_pos (by simp; omega)]
  have e : ((-1 : Int) + (((xs ++ [x]).map f).length : Nat)).toNat = xs.length := by simp; omega
  show ((xs ++ [x]).map f)[((-1 : Int) + (((xs ++ [x]).map f).length : Nat)).toNat]? = _
  rw [e, List.map_append, List.getElem?_append_right (by simp)]
  simp
end Dl

/-! Dy: least numbers; numbers of a row by the first bits of their codes; loops over bits. -/
namespace Dl
open PySem L2 Evl PySem.Spec PyProof.Rows
/-! ### the least number -/
def IsL (P : Nat → Prop) : Option Nat → Prop
  | none => ∀ m, ¬ P m
  | some m => P m ∧ ∀ k, k < m → ¬ P k
theorem IsL.uniq {P : Nat → Prop} : ∀ {o p : Option Nat}, IsL P o → IsL P p → o = p
  | none, none, _, _ => rfl
  | none, some r, h, g => absurd g.1 (h r)
  | some r, none, h, g => absurd h.1 (g r)
  | some r, some s, h, g => by
    rcases Nat.lt_trichotomy r s with z | z | z
    · exact absurd h.1 (g.2 r z)
    · rw [z]
    · exact absurd g.1 (h.2 s z)
theorem IsL.ex (P : Nat → Prop) : ∃ o, IsL P o := by
  refine Classical.byContradiction fun h => h ⟨none, fun r => ?_⟩
  induction r using Nat.strongRecOn with
  | _ r ih => exact fun e => h ⟨some r, e, ih⟩
noncomputable def lst (P : Nat → Prop) : Option Nat := Classical.choose (IsL.ex P)
theorem lst_ok (P : Nat → Prop) : IsL P (lst P) := Classical.choose_spec (IsL.ex P)
theorem lst_eq {P : Nat → Prop} {o : Option Nat} (h : IsL P o) : lst P = o := IsL.uniq (lst_ok P) h
theorem lst_none {P : Nat → Prop} (h : lst P = none) (m : Nat) : ¬ P m := by have := lst_ok P; rw [h] at this; exact this m
theorem lst_some {P : Nat → Prop} {m : Nat} (h : lst P = some m) : P m ∧ ∀ k, k < m → ¬ P k := by have := lst_ok P; rw [h] at this; exact this
theorem lst_is {P : Nat → Prop} {m : Nat} (h : P m) : ∃ k, lst P = some k ∧ k ≤ m := by
  cases e : lst P with
  | none => exact absurd h (lst_none e m)
  | some k =>
    refine ⟨k, rfl, ?_⟩
    rcases Nat.lt_or_ge m k with z | z
    · exact absurd h ((lst_some e).2 m z)
    · exact z
def optD : Option Nat → D
  | none => .non
  | some m => .int (m : Nat)
namespace CodeM
theorem plc_takeN (v : Nat) : ∀ (e j : Nat), (plc v (j + e)).take j = plc (v / 2 ^ e) j
  | 0, j => by rw [Nat.add_zero, Nat.pow_zero, Nat.div_one, List.take_of_length_le (by rw [plc_len]; exact Nat.le_refl _)]
  | e + 1, j => by
    show (plc (v / 2) (j + e) ++ [v % 2 == 1]).take j = _
    rw [List.take_append_of_le_length (by rw [plc_len]; omega), plc_takeN (v / 2) e j, Nat.div_div_eq_div_mul, Nat.pow_succ, Nat.mul_comm 2]
theorem plc_pre {v k : Nat} {l : List Bool} (hv : v < 2 ^ k) (hl : l.length ≤ k) : l <+: plc v k ↔ v / 2 ^ (k - l.length) = num l := by
  obtain ⟨e, rfl⟩ : ∃ e, k = l.length + e := ⟨k - l.length, by omega⟩
  rw [Nat.add_sub_cancel_left, List.prefix_iff_eq_take, plc_takeN]
  have hlt : v / 2 ^ e < 2 ^ l.length := Nat.div_lt_of_lt_mul (by rw [← Nat.pow_add, Nat.add_comm]; exact hv)
  constructor
  · intro h
    have := congrArg num h
    rw [num_plc, Nat.mod_eq_of_lt hlt] at this
    exact this.symm
  · intro h
    rw [h, plc_num]
variable {c : CodeM}
/-- the least number of a row whose code begins with bits, and how many there are -/
def wr (c : CodeM) (r : Nat) (l : List Bool) : Option (Nat × Nat) :=
  if l.isPrefixOf (c.head r) = true then some (c.first r, 2 ^ c.kk r)
  else if (c.head r).isPrefixOf l = true ∧ l.length - (c.head r).length ≤ c.kk r then
    some (c.first r + num (l.drop (c.head r).length) * 2 ^ (c.kk r - (l.length - (c.head r).length)), 2 ^ (c.kk r - (l.length - (c.head r).length)))
  else none
theorem pre_iff' {a b : List Bool} : a.isPrefixOf b = true ↔ a <+: b := List.isPrefixOf_iff_prefix
theorem wr_in {r : Nat} {l : List Bool} {p : Nat × Nat} (h : c.wr r l = some p) : c.first r ≤ p.1 ∧ p.1 + p.2 ≤ c.first (r + 1) ∧ 0 < p.2 := by
  unfold wr at h
  split at h
  · cases h
    exact ⟨Nat.le_refl _, Nat.le_of_eq (first_succ r).symm, Nat.pow_pos (by decide)⟩
  · split at h
    · rename_i h1 h2
      cases h
      have hn := num_lt (l.drop (c.head r).length)
      rw [List.length_drop] at hn
      refine ⟨Nat.le_add_right _ _, ?_, Nat.pow_pos (by decide)⟩
      dsimp only
      rw [first_succ, Nat.add_assoc, ← Nat.succ_mul]
      refine Nat.add_le_add_left ?_ _
      have := Nat.mul_le_mul_right (2 ^ (c.kk r - (l.length - (c.head r).length))) (Nat.succ_le_of_lt hn)
      rw [← Nat.pow_add, show l.length - (c.head r).length + (c.kk r - (l.length - (c.head r).length)) = c.kk r by omega] at this
      exact this
    · cases h
theorem wr_iff {r m : Nat} {l : List Bool} (h : c.rowOf m = r) : l <+: c.bits m ↔ ∃ p, c.wr r l = some p ∧ p.1 ≤ m ∧ m < p.1 + p.2 := by
  have hm := rowOf_ok (c := c) m
  rw [h] at hm
  have hs := first_succ (c := c) r
  unfold bits
  rw [h]
  unfold wr
  by_cases h1 : l.isPrefixOf (c.head r) = true
  · rw [if_pos h1]
    exact ⟨fun _ => ⟨_, rfl, hm.1, by dsimp only; omega⟩, fun _ => (pre_iff'.mp h1).trans (List.prefix_append _ _)⟩
  · rw [if_neg h1]
    have h1' : ¬ l <+: c.head r := fun z => h1 (pre_iff'.mpr z)
    by_cases h2 : (c.head r).isPrefixOf l = true
    · obtain ⟨rest, rfl⟩ := pre_iff'.mp h2
      rw [List.prefix_append_right_inj, List.drop_left, List.length_append, Nat.add_sub_cancel_left]
      by_cases h3 : rest.length ≤ c.kk r
      · rw [if_pos ⟨h2, h3⟩, plc_pre (by omega) h3]
        have hp : 0 < 2 ^ (c.kk r - rest.length) := Nat.pow_pos (by decide)
        constructor
        · intro e
          refine ⟨_, rfl, ?_, ?_⟩
          · dsimp only
            have := Nat.div_mul_le_self (m - c.first r) (2 ^ (c.kk r - rest.length))
            rw [e] at this; omega
          · dsimp only
            have := Nat.lt_div_mul_add hp (a := m - c.first r)
            rw [e] at this; omega
        · rintro ⟨p, hp', p1, p2⟩
          cases hp'
          dsimp only at p1 p2
          refine Nat.div_eq_of_lt_le ?_ ?_
          · omega
          · rw [Nat.succ_mul]; omega
      · rw [if_neg (fun z => h3 z.2)]
        constructor
        · intro z
          have := z.length_le
          rw [plc_len] at this; exact absurd this h3
        · rintro ⟨p, hp, _⟩; cases hp
    · rw [if_neg (fun z => h2 z.1)]
      constructor
      · intro z
        exfalso
        rcases Nat.le_total l.length (c.head r).length with q | q
        · exact h1' (List.prefix_of_prefix_length_le z (List.prefix_append _ _) q)
        · exact h2 (pre_iff'.mpr (List.prefix_of_prefix_length_le (List.prefix_append _ _) z q))
      · rintro ⟨p, hp, _⟩; cases hp
/-- some number of the row -/
theorem wr_has {r : Nat} {l : List Bool} {p : Nat × Nat} (h : c.wr r l = some p) : c.rowOf p.1 = r ∧ l <+: c.bits p.1 := by
  obtain ⟨h1, h2, h3⟩ := wr_in h
  have e : c.rowOf p.1 = r := rowOf_eq h1 (by omega)
  exact ⟨e, (wr_iff e).mpr ⟨p, h, Nat.le_refl _, by omega⟩⟩
theorem rowOf_mono {n m : Nat} (h : n ≤ m) : c.rowOf n ≤ c.rowOf m := by
  rcases Nat.lt_or_ge (c.rowOf m) (c.rowOf n) with z | z
  · have h1 := (rowOf_ok (c := c) m).2
    have h2 := (rowOf_ok (c := c) n).1
    have h3 := first_mono (c := c) (show c.rowOf m + 1 ≤ c.rowOf n from z)
    omega
  · exact z
theorem rowOf_first (r : Nat) : c.rowOf (c.first r) = r := rowOf_eq (Nat.le_refl _) (first_lt r)
theorem head_tail' (i : Nat) : c.head (c.rows.length + i) = rep c.again i ++ c.stop := by unfold head; rw [row_tail]
/-- far rows are alike to bits -/
theorem far_like (h1 : 1 ≤ c.again.length) {l : List Bool} {i j : Nat} (hi : l.length / c.again.length + 1 ≤ i) (hj : l.length / c.again.length + 1 ≤ j) (h : l <+: c.head (c.rows.length + i)) : l <+: c.head (c.rows.length + j) := by
  have hq : l.length ≤ (l.length / c.again.length + 1) * c.again.length := by
    have := Nat.div_add_mod l.length c.again.length
    have := Nat.mod_lt l.length (show 0 < c.again.length by omega)
    rw [Nat.succ_mul, Nat.mul_comm]; omega
  generalize l.length / c.again.length + 1 = q at hi hj hq
  obtain ⟨e, rfl⟩ : ∃ e, i = q + e := ⟨i - q, by omega⟩
  obtain ⟨f, rfl⟩ : ∃ f, j = q + f := ⟨j - q, by omega⟩
  rw [head_tail', rep_add, List.append_assoc] at h ⊢
  exact (List.prefix_of_prefix_length_le h (List.prefix_append _ _) (by rw [rep_len]; exact hq)).trans (List.prefix_append _ _)
theorem far_long (h1 : 1 ≤ c.again.length) {l : List Bool} {i : Nat} (hi : l.length / c.again.length + 1 ≤ i) : l.length < (c.head (c.rows.length + i)).length := by
  have := Nat.div_add_mod l.length c.again.length
  have := Nat.mod_lt l.length (show 0 < c.again.length by omega)
  have h2 := Nat.mul_le_mul_right c.again.length hi
  rw [Nat.succ_mul, Nat.mul_comm] at h2
  rw [head_tail', List.length_append, rep_len]; omega
theorem wr_far (h1 : 1 ≤ c.again.length) {l : List Bool} {i : Nat} (hi : l.length / c.again.length + 1 ≤ i) : c.wr (c.rows.length + i) l = if l.isPrefixOf (c.head (c.rows.length + i)) = true then some (c.first (c.rows.length + i), 2 ^ c.kk (c.rows.length + i)) else none := by
  unfold wr
  by_cases h : l.isPrefixOf (c.head (c.rows.length + i)) = true
  · rw [if_pos h, if_pos h]
  · rw [if_neg h, if_neg h, if_neg]
    rintro ⟨z, _⟩
    have := (pre_iff'.mp z).length_le
    have := far_long h1 hi
    omega
/-- what begins so far out begins so near -/
theorem near_has (h1 : 1 ≤ c.again.length) {l : List Bool} {m i : Nat} (hi : l.length / c.again.length + 1 ≤ i) (hm : c.rows.length + i ≤ c.rowOf m) (h : l <+: c.bits m) : ∀ j, l.length / c.again.length + 1 ≤ j → l <+: c.head (c.rows.length + j) := fun j hj => by
  obtain ⟨e, he⟩ : ∃ e, c.rowOf m = c.rows.length + e := ⟨c.rowOf m - c.rows.length, by omega⟩
  obtain ⟨p, hp, _⟩ := (wr_iff he).mp h
  rw [wr_far h1 (by omega)] at hp
  split at hp
  · rename_i z; exact far_like h1 (by omega) hj (pre_iff'.mp z)
  · cases hp
end CodeM
/-! ### loops over bits -/
section
variable {K : PySem.W.Frag} {c : Ctx} {ds : Fm} {tl : TE}
theorem signs_bs (l : List Bool) : signs (bs l) = l.map fun b => D.str (bs [b]) := by
  unfold signs; rw [bs_cps, List.map_map]; rfl
theorem ei_bits {l : List Bool} (h : Ee c tl ds (.str (bs l))) : Ei c (iStr tl) ds (l.map fun b => D.str (bs [b])) := by
  have := ei_str h
  rw [signs_bs] at this
  exact this
def rIntT : List V → Hp → VK → Prop := fun xs H Q => ∃ a n, xs = [.str a] ∧ PySem.intText? a = some n ∧ a.length ≤ 640 ∧ Q (.int n) H
theorem k_intS {X : Cx} : CallR X (.type "int") rIntT := call_int_str
theorem rc_intBit {b : Bool} : Rc K rIntT [.str (bs [b])] (.int ((if b then 1 else 0 : Nat) : Int)) := fun G H vs s r Q t => by
  cases r with
  | cons r r' =>
    cases r'; cases r
    cases b
    · exact ⟨_, 0, rfl, by decide +kernel, by decide, t.same s (.int _)⟩
    · exact ⟨_, 1, rfl, by decide +kernel, by decide, t.same s (.int _)⟩
theorem num_take {l : List Bool} {i : Nat} {b : Bool} (h : l[i]? = some b) : CodeM.num (l.take (i + 1)) = 2 * CodeM.num (l.take i) + (if b then 1 else 0) := by
  rw [List.take_succ, h]; exact CodeM.num_snoc _ _
end
end Dl

/-! Dz: pieces of bits that are not determined; own lists met. -/
namespace Dl
open PySem L2 Evl PySem.Spec PyProof.Rows
def Eno (c : Ctx) (to : TO) (ds : Fm) (P : Option Int → Prop) : Prop := ∀ G H σ, At c G H σ ds → ∀ Q : Option Int → Hp → Prop, (∀ o G1 H1, P o → Ext c.l G H G1 H1 → Ex G1 H1 → Q o H1) → to σ H Q
section
variable {c : Ctx} {ds : Fm} {te ta tb : TE} {P : D → Prop} {tl th : TO} {P1 P2 : Option Int → Prop}
theorem eno_none : Eno c tNoPart ds (fun o => o = none) := fun G H σ a Q q => q none G H rfl Ext.refl a.sub
theorem eno_of {o : Option Int} (h : Eo c tl ds o) : Eno c tl ds (fun o' => o' = o) := fun G H σ a Q q => h G H σ a Q fun G1 H1 e s => q o G1 H1 rfl e s
theorem eno_some {R : Int → Prop} (h : En c te ds (fun d => ∃ i : Int, d = .int i ∧ R i)) : Eno c (tPart te) ds (fun o => ∃ i, o = some i ∧ R i) := fun G H σ a Q q => h G H σ a _ fun v d G1 H1 p e1 s1 r1 => by
  obtain ⟨i, rfl, hi⟩ := p
  cases r1
  exact ⟨i, rfl, q (some i) G1 H1 ⟨i, rfl, hi⟩ e1 s1⟩
theorem en_sl {r : V → Option Int → Option Int → Hp → VK → Prop} {z : D → Option Int → Option Int → D} (ha : En c te ds P) (h1 : Eno c tl ds P1) (h2 : Eno c th ds P2) (hr : ∀ x lo hi, P x → P1 lo → P2 hi → Rs c.K r x lo hi (z x lo hi)) : En c (tSl r te tl th) ds (fun d => ∃ x lo hi, P x ∧ P1 lo ∧ P2 hi ∧ d = z x lo hi) := fun G H σ a Q q =>
  ha G H σ a _ fun v x G1 H1 px e1 s1 r1 => h1 G1 H1 σ (a.go e1 s1) _ fun lo G2 H2 p1 e2 s2 => h2 G2 H2 σ (a.go (e1.trans e2) s2) _ fun hi G3 H3 p2 e3 s3 => hr x lo hi px p1 p2 G3 H3 v s3 (r1.mono (e2.trans e3).g) Q fun u G4 H4 e4 s4 r4 => q u _ G4 H4 ⟨x, lo, hi, px, p1, p2, rfl⟩ (((e1.trans e2).trans e3).trans e4.all) s4 r4
/-- bits of at most so many signs -/
abbrev BitsTo (n : Nat) (d : D) : Prop := ∃ l : List Bool, d = .str (bs l) ∧ l.length ≤ n
theorem en_uptoB {L : List Bool} (ha : Ee c ta ds (.str (bs L))) (hL : L.length ≤ 1000000) (h : En c te ds (fun d => ∃ k : Nat, d = .int (k : Nat))) : En c (tSl (rSlG c.K) ta tNoPart (tPart te)) ds (fun d => ∃ k : Nat, d = .str (bs (L.take k))) :=
  en_imp (en_sl (z := fun _ _ hi => .str (bs (L.take (hi.getD 0).toNat))) (en_of ha) eno_none (eno_some (R := fun i => ∃ k : Nat, i = k) (en_imp h fun d ⟨k, e⟩ => ⟨k, e, k, rfl⟩)) (fun x lo hi p q r => by
    obtain ⟨_, rfl, k, rfl⟩ := r
    subst p; subst q
    exact rs_uptoB hL)) (fun d hd => by
    obtain ⟨_, _, _, _, _, ⟨_, rfl, k, rfl⟩, rfl⟩ := hd
    exact ⟨k, rfl⟩)
theorem en_fromB {L : List Bool} (ha : Ee c ta ds (.str (bs L))) (hL : L.length ≤ 1000000) (h : En c te ds (fun d => ∃ k : Nat, d = .int (k : Nat))) : En c (tSl (rSlG c.K) ta (tPart te) tNoPart) ds (fun d => ∃ k : Nat, d = .str (bs (L.drop k))) :=
  en_imp (en_sl (z := fun _ lo _ => .str (bs (L.drop (lo.getD 0).toNat))) (en_of ha) (eno_some (R := fun i => ∃ k : Nat, i = k) (en_imp h fun d ⟨k, e⟩ => ⟨k, e, k, rfl⟩)) eno_none (fun x lo hi p q r => by
    obtain ⟨_, rfl, k, rfl⟩ := q
    subst p; subst r
    exact rs_fromB hL)) (fun d hd => by
    obtain ⟨_, _, _, _, ⟨_, rfl, k, rfl⟩, _, rfl⟩ := hd
    exact ⟨k, rfl⟩)
def catD (x y : D) : D := match x, y with
  | .str a, .str b => .str (a ++ b)
  | _, _ => .non
theorem en_addB {m n : Nat} (ha : En c ta ds (BitsTo m)) (hb : En c tb ds (BitsTo n)) (h : m + n ≤ 1000000) : En c (tOp (rAddG c.K) ta tb) ds (BitsTo (m + n)) :=
  en_imp (en_op (z := catD) ha hb (fun x y p q => by
    obtain ⟨a, rfl, h1⟩ := p
    obtain ⟨b, rfl, h2⟩ := q
    exact rb_addS (by rw [bs_len, bs_len]; omega))) (fun d hd => by
    obtain ⟨x, y, ⟨a, rfl, h1⟩, ⟨b, rfl, h2⟩, rfl⟩ := hd
    exact ⟨a ++ b, congrArg D.str (bs_app a b), by rw [List.length_append]; omega⟩)
def addD (x y : D) : D := match x, y with
  | .int i, .int j => .int (i + j)
  | _, _ => .non
theorem en_addN {p q : Nat → Prop} (ha : En c ta ds (fun d => ∃ k : Nat, d = .int (k : Nat) ∧ p k)) (hb : En c tb ds (fun d => ∃ k : Nat, d = .int (k : Nat) ∧ q k)) : En c (tOp (rAddG c.K) ta tb) ds (fun d => ∃ i j : Nat, d = .int ((i + j : Nat) : Int) ∧ p i ∧ q j) :=
  en_imp (en_op (z := addD) ha hb (fun x y hx hy => by
    obtain ⟨a, rfl, h1⟩ := hx
    obtain ⟨b, rfl, h2⟩ := hy
    exact rb_addI)) (fun d hd => by
    obtain ⟨x, y, ⟨a, rfl, h1⟩, ⟨b, rfl, h2⟩, rfl⟩ := hd
    exact ⟨a, b, rfl, h1, h2⟩)
end
theorem list_nats {b : Nat} : ∀ {ys : List D}, (∀ y ∈ ys, ∃ n : Nat, y = .int (n : Nat) ∧ n < b) → ∃ ns : List Nat, ys = ns.map (fun n => .int (n : Nat)) ∧ ∀ n ∈ ns, n < b
  | [], _ => ⟨[], rfl, fun _ z => nomatch z⟩
  | y :: ys, h => by
    obtain ⟨n, rfl, hn⟩ := h y List.mem_cons_self
    obtain ⟨ns, rfl, h2⟩ := list_nats fun y hy => h y (List.mem_cons_of_mem _ hy)
    exact ⟨n :: ns, rfl, fun d hd => by
      rcases List.mem_cons.mp hd with rfl | z
      · exact hn
      · exact h2 d z⟩
theorem draw_nat {n : Int} {b : Nat} (hb : n ≤ (b : Int)) {d : D} (h : ∃ r : Int, d = .int r ∧ 0 ≤ r ∧ r < n) : ∃ k : Nat, d = .int (k : Nat) ∧ k < b := by
  obtain ⟨r, rfl, r0, r1⟩ := h
  exact ⟨r.toNat, by congr 1; omega, by omega⟩
end Dl

/-! Dza: texts sorted, any number of them; the least of a list; all but the last sign. -/
namespace Dl
open PySem L2 Evl PySem.Spec PyProof.Rows
def rSortS (K : PySem.W.Frag) : List V → Hp → VK → Prop := fun vs H Q => ∃ (a : Addr) (xs : List Str), vs = [V.ref a] ∧ SqL K H a (xs.map V.str) ∧
  ∀ (ys : List Str) (p : Addr), ys.Perm xs → sortedS ys = true → H p = none → Q (.ref p) (upd H p (.lst (ys.map V.str)))
theorem cr_sortS {X : Cx} : CallR X (.builtin "sorted") (rSortS X.K) := by
  intro pins s σ H vs us Q I r h
  obtain ⟨a, xs, rfl, hs, q⟩ := h
  obtain ⟨its, rv, hl, hz⟩ := I.list hs
  rw [Vals.ref1 r]
  have hlen0 := rv.length
  refine PyProof.Rows.sorted_strsAny hl.isList rv.strs (by rw [← hlen0]; exact hz) fun out ys h1 h2 h3 => ?_
  obtain ⟨ep, he'⟩ := PyProof.Rows.sortedAll_at s.heap its out
  have hlen : (ys.map V.str).length ≤ sizeLine := by
    rw [List.length_map, h2.length_eq]
    rw [List.length_map] at hz
    exact hz
  exact ⟨.ref _, upd H (s.heap.objs.size + 1) (.lst (ys.map V.str)), I.laid (t' := s.toks) (fun _ _ => PyProof.Rows.sortedAll_old) (Nat.le_succ _) ⟨hlen, out.toList, ep, vals_of_strs h1, he'⟩, rfl, q ys _ h2 h3 (I.hok.fresh (Nat.le_succ _))⟩
theorem k_sortS {X : Cx} (K : PySem.W.Frag) (hK : X.K = K) : CallR X (.builtin "sorted") (rSortS K) := by subst hK; exact cr_sortS
theorem ltCps_lt : ∀ {x y : List Nat}, ltCps x y = true ↔ x < y
  | [], [] => by simp [ltCps]
  | [], b :: y => by simp [ltCps]
  | a :: x, [] => by simp [ltCps]
  | a :: x, b :: y => by
    have ih := @ltCps_lt x y
    rw [List.cons_lt_cons_iff]
    unfold ltCps
    by_cases h1 : a < b
    · simp [h1]
    · by_cases h2 : a = b
      · subst h2; simp [ih]
      · simp [h1, h2]
theorem blt_irr : ∀ x : List Bool, blt x x = false
  | [] => rfl
  | a :: x => by show (if a = a then blt x x else a) = false; rw [if_pos rfl]; exact blt_irr x
theorem blt_asym : ∀ {x y : List Bool}, blt x y = true → blt y x = false
  | [], [], h => by cases h
  | [], b :: y, h => rfl
  | a :: x, [], h => by cases h
  | a :: x, b :: y, h => by
    have ih := @blt_asym x y
    have h : (if a = b then blt x y else b) = true := h
    show (if b = a then blt y x else a) = false
    by_cases e : a = b
    · subst e
      rw [if_pos rfl] at h ⊢
      exact ih h
    · rw [if_neg e] at h
      rw [if_neg (Ne.symm e)]
      subst h
      cases a
      · rfl
      · exact absurd rfl e
/-- of two orders of the same, sorted both: they are one -/
theorem sorted_uniq : ∀ {xs ys : List (List Bool)}, ys.Perm xs → xs.Pairwise (fun a b => blt a b = true) → ys.Pairwise (fun a b => blt b a = false) → ys = xs
  | [], ys, h, _, _ => List.Perm.eq_nil h
  | x :: xs, [], h, _, _ => (List.Perm.eq_nil h.symm).symm ▸ rfl
  | x :: xs, y :: ys, h, h1, h2 => by
    rw [List.pairwise_cons] at h1 h2
    by_cases e : y = x
    · subst e
      rw [sorted_uniq h.cons_inv h1.2 h2.2]
    · exfalso
      have hx : x ∈ ys := (List.mem_cons.mp (h.mem_iff.mpr List.mem_cons_self)).resolve_left (Ne.symm e)
      have hy : y ∈ xs := (List.mem_cons.mp (h.mem_iff.mp List.mem_cons_self)).resolve_left e
      have a := h2.1 x hx
      have b := h1.1 y hy
      rw [b] at a; cases a
theorem bs_ltCps (a b : List Bool) : ltCps (bs a).cps.toList (bs b).cps.toList = blt a b := by
  rw [Bool.eq_iff_iff, ltCps_lt, bs_cps, bs_cps, blt_lt]
theorem rising_bs : ∀ {l : List (List Bool)} {p : List Bool}, risingS (bs p) (l.map bs) = true → (p :: l).Pairwise (fun a b => blt b a = false)
  | [], p, _ => List.pairwise_singleton _ _
  | x :: l, p, h => by
    rw [List.map_cons] at h
    unfold risingS at h
    rw [Bool.and_eq_true, bs_ltCps] at h
    have h1 : blt x p = false := by simpa using h.1
    have ih := rising_bs h.2
    refine List.pairwise_cons.mpr ⟨fun a ha => ?_, ih⟩
    rcases List.mem_cons.mp ha with rfl | ha
    · exact h1
    · have h3 := (List.pairwise_cons.mp ih).1 a ha
      -- not a < x, not x < p: not a < p
      cases e : blt a p with
      | false => rfl
      | true =>
        exfalso
        have ap := blt_lt.mp e
        have nax : ¬ a.map sg < x.map sg := fun z => by rw [blt_lt.mpr z] at h3; cases h3
        have nxp : ¬ x.map sg < p.map sg := fun z => by rw [blt_lt.mpr z] at h1; cases h1
        have h5 : x.map sg ≤ a.map sg := nax
        have h6 : p.map sg ≤ x.map sg := nxp
        exact absurd ap (List.le_trans h6 h5)
theorem sorted_bs {l : List (List Bool)} (h : sortedS (l.map bs) = true) : l.Pairwise (fun a b => blt b a = false) := by
  cases l with
  | nil => exact .nil
  | cons x l => exact rising_bs h
theorem perm_bs {ys : List Str} {l : List (List Bool)} (h : ys.Perm (l.map bs)) : ∃ l' : List (List Bool), ys = l'.map bs ∧ l'.Perm l := by
  have all : ∀ y ∈ ys, ∃ b, y = bs b := fun y hy => by
    obtain ⟨b, _, e⟩ := List.mem_map.mp (h.mem_iff.mp hy)
    exact ⟨b, e.symm⟩
  have : ∃ l' : List (List Bool), ys = l'.map bs := by
    clear h
    induction ys with
    | nil => exact ⟨[], rfl⟩
    | cons y ys ih =>
      obtain ⟨b, rfl⟩ := all y List.mem_cons_self
      obtain ⟨l', rfl⟩ := ih fun y hy => all y (List.mem_cons_of_mem _ hy)
      exact ⟨b :: l', rfl⟩
  obtain ⟨l', rfl⟩ := this
  refine ⟨l', rfl, ?_⟩
  have inj : ∀ m : List (List Bool), (m.map bs).map (fun s : Str => s.cps.toList.map (· == 49)) = m := fun m => by
    rw [List.map_map]
    have : ∀ b : List Bool, ((fun s : Str => s.cps.toList.map (· == 49)) ∘ bs) b = b := fun b => by
      show (bs b).cps.toList.map (· == 49) = b
      rw [bs_cps, List.map_map]
      have : ∀ x : Bool, ((fun x => x == 49) ∘ sg) x = x := fun x => by cases x <;> rfl
      induction b with
      | nil => rfl
      | cons x b ih => rw [List.map_cons, ih, this]
    induction m with
    | nil => rfl
    | cons b m ih => rw [List.map_cons, ih, this]
  have q := h.map (fun s : Str => s.cps.toList.map (· == 49))
  rw [inj, inj] at q
  exact q
theorem rc_sortB {K : PySem.W.Frag} {xs ys : List (List Bool)} (hp : xs.Perm ys) (hs : ys.Pairwise (fun a b => blt a b = true)) : Rc K (rSortS K) [.lst (xs.map fun b => .str (bs b))] (.lst (ys.map fun b => .str (bs b))) := fun G H vs s r Q t => by
  cases r with
  | cons r1 r2 =>
    cases r2
    cases r1 with
    | @lst a ws ds e q =>
      have q' : Reps K G ws ((xs.map bs).map D.str) := by rw [List.map_map]; exact q
      have hv := q'.strs
      subst hv
      refine ⟨a, xs.map bs, rfl, SqL.of (s _ _ e), fun zs p hz hso hp' => ?_⟩
      obtain ⟨l', rfl, hl⟩ := perm_bs hz
      have e2 := sorted_uniq (hl.trans hp) hs (sorted_bs hso)
      subst e2
      have rr : Reps K G ((l'.map bs).map V.str) (l'.map fun b => D.str (bs b)) := by
        have := Reps.of_strs (K := K) (H := G) (l'.map bs)
        rw [List.map_map (f := bs) (g := D.str)] at this
        exact this
      exact t.lst s rr p hp'
/-- the least number of a list -/
theorem rc_minL {K : PySem.W.Frag} {l : List Nat} {m : Nat} (hm : m ∈ l) (h : ∀ x ∈ l, m ≤ x) : Rc K (rMin K) [.lst (l.map fun n : Nat => .int (n : Int))] (.int (m : Nat)) := fun G H vs s r Q t => by
  cases r with
  | cons r1 r2 =>
    cases r2
    cases r1 with
    | @lst a ws ds e q =>
      have q' : Reps K G ws ((l.map fun n : Nat => (n : Int)).map D.int) := by rw [List.map_map]; exact q
      have hv := q'.ints
      subst hv
      refine ⟨a, l.map fun n : Nat => (n : Int), rfl, SqL.of (s _ _ e), by rw [List.length_map]; exact List.length_pos_iff.mpr (fun z => by rw [z] at hm; cases hm), fun k hk hb => ?_⟩
      have em : k = (m : Nat) := by
        obtain ⟨x, hx, rfl⟩ := List.mem_map.mp hk
        have h1 := h x hx
        have h2 := hb _ (List.mem_map.mpr ⟨_, hm, rfl⟩)
        omega
      rw [em]
      exact t.same s (.int _)
/-- bits[:-1] -/
theorem bs_init (l : List Bool) : cutS (bs l) none (some (-1)) = bs l.dropLast := by
  rw [bs_cutS, HT.sIx_none, List.drop_zero, Nat.sub_zero]
  congr 1
  have e : HT.sIx l.length l.length (some (-1)) = l.length - 1 := by
    show (if (-1 : Int) < 0 then ((-1 : Int) + (l.length : Int)).toNat else min (-1 : Int).toNat l.length) = _
    rw [if_pos (by decide)]; omega
  rw [e, List.dropLast_eq_take]
theorem rs_initB {K : PySem.W.Frag} {l : List Bool} (h : l.length ≤ 1000000) : Rs K (rSlG K) (.str (bs l)) none (some (-1)) (.str (bs l.dropLast)) := by
  rw [← bs_init]; exact rs_str (by rw [bs_len]; exact h)
theorem rb_neBl {K : PySem.W.Frag} {a b : Bool} : Rb K (rNeG K) (.bl a) (.bl b) (.bl (!decide (a = b))) := by
  have := rb_neP (K := K) (x := .bl a) (y := .bl b) 0 0 rfl rfl (by decide) (by decide)
  have e : PyData.eqv (toPy (.bl a)) (toPy (.bl b)) = decide (a = b) := by cases a <;> cases b <;> rfl
  rwa [e] at this
end Dl

/-! Dzb: texts cut at a sign. -/
namespace Dl
open PySem L2 Evl PySem.Spec PyProof.Rows
open PySem.StrLaws PySem.Builtin PySem.Builtin.Str
theorem occ_all (x : Str) (c : Nat) : ∀ (n a : Nat) (st : Array Nat × Nat), st.fst.size + n ≤ x.length + 1 → st.snd ≤ a →
    (forIn (List.range' a n) st (occBody x ⟨#[c]⟩ x.length (x.length + 1))).run.fst.toList = st.fst.toList ++ (List.range' a n).filter fun i => x.cps.toList[i]? == some c
  | 0, a, st, _, _ => by simp
  | n + 1, a, st, h1, h2 => by
    rw [List.range'_succ, List.forIn_cons, List.filter_cons]
    unfold occBody
    by_cases hc : x.cps.toList[a]? = some c
    · have h3 := (subAt_one x c a).mpr hc
      rw [if_pos ⟨⟨⟨by omega, h2⟩, h3.1⟩, h3.2⟩, if_pos (by rw [hc]; simp)]
      have ih := occ_all x c n (a + 1) (st.fst.push a, a + (⟨#[c]⟩ : Str).length) (by simp; omega) (by show a + 1 ≤ a + 1; omega)
      refine Eq.trans ih ?_
      simp
    · have h3 : ¬ (((st.fst.size < x.length + 1 ∧ st.snd ≤ a) ∧ a + (⟨#[c]⟩ : Str).length ≤ x.length) ∧ subAt x ⟨#[c]⟩ a = true) := fun z => hc ((subAt_one x c a).mp ⟨z.1.2, z.2⟩)
      rw [if_neg h3, if_neg (by simpa using hc)]
      exact occ_all x c n (a + 1) (st.fst, st.snd) (by show st.fst.size + n ≤ _; omega) (by show st.snd ≤ a + 1; omega)
def jn (c : Nat) : List (List Nat) → List Nat
  | [] => []
  | [p] => p
  | p :: q :: r => p ++ c :: jn c (q :: r)
theorem filter_none {x : Str} {c a : Nat} {p : List Nat} (hp : c ∉ p) {r : List Nat} (hx : x.cps.toList.drop a = p ++ r) : ((List.range' a p.length).filter fun i => x.cps.toList[i]? == some c) = [] := by
  rw [List.filter_eq_nil_iff]
  intro i hi
  rw [List.mem_range'_1] at hi
  intro h
  have h : x.cps.toList[i]? = some c := by simpa using h
  have e : x.cps.toList[i]? = (x.cps.toList.drop a)[i - a]? := by rw [List.getElem?_drop]; congr 1; omega
  rw [e, hx, List.getElem?_append_left (by omega)] at h
  exact hp (List.mem_of_getElem? h)
theorem parts_jn (x : Str) (c : Nat) : ∀ (ps : List Str) (a : Nat), ps ≠ [] → (∀ p ∈ ps, c ∉ p.cps.toList) → a ≤ x.length → x.cps.toList.drop a = jn c (ps.map fun p => p.cps.toList) →
    partsFrom x 1 a ((List.range' a (x.length + 1 - a)).filter fun i => x.cps.toList[i]? == some c) = ps
  | [], _, h, _, _, _ => absurd rfl h
  | [p], a, _, hf, ha, hx => by
    have hx : x.cps.toList.drop a = p.cps.toList := hx
    have hl : x.length - a = p.cps.toList.length := by rw [← hx, List.length_drop]; simp [Str.length]
    have h9 : x.cps.toList.length = x.length := by simp [Str.length]
    have e : (List.range' a (x.length + 1 - a)).filter (fun i => x.cps.toList[i]? == some c) = [] := by
      have e1 : x.length + 1 - a = p.cps.toList.length + 1 := by omega
      rw [e1, List.range'_concat, List.filter_append, filter_none (hf p (by simp)) (r := []) (by rw [hx, List.append_nil]), List.filter_cons, if_neg]
      · rfl
      · rw [Nat.one_mul, List.getElem?_eq_none (by rw [h9]; omega)]; simp
    rw [e]
    show [strSub x a x.length] = [p]
    congr 1
    refine str_ext ?_
    rw [strSub_toList, hx, List.take_of_length_le (by omega)]
  | p :: q :: r, a, _, hf, ha, hx => by
    have hx : x.cps.toList.drop a = p.cps.toList ++ c :: jn c ((q :: r).map fun p => p.cps.toList) := hx
    have hp := hf p (by simp)
    have hll : x.cps.toList.length = x.length := by simp [Str.length]
    have hl : x.length - a = p.cps.toList.length + ((jn c ((q :: r).map fun p => p.cps.toList)).length + 1) := by
      have := congrArg List.length hx
      rw [List.length_drop, List.length_append, List.length_cons, hll] at this
      exact this
    have ha2 : a + p.cps.toList.length + 1 ≤ x.length := by omega
    have hx2 : x.cps.toList.drop (a + p.cps.toList.length + 1) = jn c ((q :: r).map fun p => p.cps.toList) := by
      have : x.cps.toList.drop (a + p.cps.toList.length + 1) = ((x.cps.toList.drop a).drop p.cps.toList.length).drop 1 := by rw [List.drop_drop, List.drop_drop, Nat.add_assoc]
      rw [this, hx, List.drop_left]; rfl
    have ih := parts_jn x c (q :: r) (a + p.cps.toList.length + 1) (by simp) (fun y hy => hf y (List.mem_cons_of_mem _ hy)) ha2 hx2
    have hc : x.cps.toList[a + p.cps.toList.length]? = some c := by
      have : x.cps.toList[a + p.cps.toList.length]? = (x.cps.toList.drop a)[p.cps.toList.length]? := by rw [List.getElem?_drop]
      rw [this, hx, List.getElem?_append_right (Nat.le_refl _)]; simp
    have e : (List.range' a (x.length + 1 - a)).filter (fun i => x.cps.toList[i]? == some c) = (a + p.cps.toList.length) :: (List.range' (a + p.cps.toList.length + 1) (x.length + 1 - (a + p.cps.toList.length + 1))).filter (fun i => x.cps.toList[i]? == some c) := by
      have e1 : x.length + 1 - a = p.cps.toList.length + ((x.length + 1 - (a + p.cps.toList.length + 1)) + 1) := by omega
      have e2 : List.range' a (x.length + 1 - a) = List.range' a p.cps.toList.length ++ (a + p.cps.toList.length) :: List.range' (a + p.cps.toList.length + 1) (x.length + 1 - (a + p.cps.toList.length + 1)) := by
        rw [e1, ← List.range'_append_1]
        congr 1
      rw [e2, List.filter_append, filter_none hp hx, List.nil_append, List.filter_cons, if_pos (by rw [hc]; simp)]
    rw [e]
    show strSub x a (a + p.cps.toList.length) :: partsFrom x 1 (a + p.cps.toList.length + 1) _ = _
    rw [ih]
    congr 1
    refine str_ext ?_
    rw [strSub_toList, hx, Nat.add_sub_cancel_left, List.take_left]
theorem kind_ge (x : Str) : 1 ≤ Str.strKind x := by
  unfold Str.strKind
  split
  · decide
  · split <;> decide
theorem jn_one {c : Nat} : ∀ {ps : List (List Nat)}, c ∉ jn c ps → ps ≠ [] → ps.length = 1
  | [], _, h => absurd rfl h
  | [p], _, _ => rfl
  | p :: q :: r, h, _ => absurd (by show c ∈ p ++ c :: jn c (q :: r); simp) h
/-- a text of parts without the sign is cut into them -/
theorem split_jn {x : Str} {c : Nat} {ps : List Str} (hc : Str.strKind ⟨#[c]⟩ = 1) (hne : ps ≠ []) (hf : ∀ p ∈ ps, c ∉ p.cps.toList) (hx : x.cps.toList = jn c (ps.map fun p => p.cps.toList)) : Txt.split x ⟨#[c]⟩ = ps := by
  have one : c ∉ x.cps.toList → [x] = ps := fun h => by
    rw [hx] at h
    have h1 := jn_one h (by simpa using hne)
    rw [List.length_map] at h1
    match ps, h1 with
    | [p], _ => rw [show x = p from str_ext hx]
  have hl : (⟨#[c]⟩ : Str).length = 1 := rfl
  unfold Txt.split
  by_cases h0 : x.length < 1
  · rw [if_pos (by rw [hl, decide_eq_true h0]; rfl)]
    refine one ?_
    have : x.cps.toList = [] := List.length_eq_zero_iff.mp (by simp [Str.length] at h0 ⊢; omega)
    rw [this]; simp
  · have hk := kind_ge x
    rw [if_neg (by rw [hl, hc, decide_eq_false h0, decide_eq_false (by omega)]; decide)]
    have occ : occurrences x ⟨#[c]⟩ 0 x.length (x.length + 1) = (List.range' 0 (x.length + 1 - 0)).filter fun i => x.cps.toList[i]? == some c := by
      rw [occ_eq, occ_all x c (x.length + 1 - 0) 0 (#[], 0) (by simp) (Nat.le_refl _)]; simp
    have hp := parts_jn x c ps 0 hne hf (Nat.zero_le _) hx
    rw [← occ] at hp
    split
    · rename_i he
      rw [List.isEmpty_iff.mp he] at hp
      rw [← hp]
      show [x] = [strSub x 0 x.length]
      rw [sub_whole]
    · rw [partsBetween_eq]; exact hp
theorem join_cps (c : Nat) : ∀ ps : List Str, (Txt.join ⟨#[c]⟩ ps).cps.toList = jn c (ps.map fun p => p.cps.toList) := fun ps => by
  rw [TL.join_eq]
  induction ps with
  | nil => rfl
  | cons p ps ih =>
    cases ps with
    | nil => rfl
    | cons q r =>
      show (p ++ (⟨#[c]⟩ : Str) ++ Str.join ⟨#[c]⟩ (q :: r)).cps.toList = p.cps.toList ++ c :: jn c ((q :: r).map fun p => p.cps.toList)
      rw [str_app, str_app, ih]; simp
theorem split_join {c : Nat} {ps : List Str} (hc : Str.strKind ⟨#[c]⟩ = 1) (hne : ps ≠ []) (hf : ∀ p ∈ ps, c ∉ p.cps.toList) : Txt.split (Txt.join ⟨#[c]⟩ ps) ⟨#[c]⟩ = ps := split_jn hc hne hf (join_cps c ps)
end Dl

/-! Dzc: texts with fields, cut texts, every second item, own errors with a line. -/
namespace Dl
open PySem L2 Evl PySem.Spec PyProof.Rows
section
variable {c : Ctx} {ds : Fm} {te ta tb t : TE} {ts : List TE} {y : Str} {ys : List Str} {K : PySem.W.Frag}
/-! ### f-strings -/
def Ejs (c : Ctx) (ts : List TE) (ds : Fm) (ys : List Str) : Prop := ∀ (acc : Str) G H σ, At c G H σ ds → acc.length + (ys.map (·.length)).sum ≤ 1000000 → ∀ Q : Str → Hp → Prop, (∀ G1 H1, Ext c.l G H G1 H1 → Ex G1 H1 → Q (ys.foldl (· ++ ·) acc) H1) → tJs ts acc σ H Q
theorem ejs_nil : Ejs c [] ds [] := fun acc G H σ a _ Q q => q G H Ext.refl a.sub
theorem len_app (a b : Str) : (a ++ b).length = a.length + b.length := Str.length_append a b
theorem ejs_cons (h : Ee c t ds (.str y)) (r : Ejs c ts ds ys) : Ejs c (t :: ts) ds (y :: ys) := fun acc G H σ a hz Q q => h G H σ a _ fun v G1 H1 e1 s1 r1 => by
  cases r1
  rw [List.map_cons, List.sum_cons] at hz
  exact ⟨y, rfl, sz_of (by rw [len_app]; omega), r (acc ++ y) G1 H1 σ (a.go e1 s1) (by rw [len_app]; omega) Q fun G2 H2 e2 s2 => q G2 H2 (e1.trans e2) s2⟩
theorem ee_joined (h : Ejs c ts ds ys) (hz : (ys.map (·.length)).sum ≤ 1000000) : Ee c (fun σ H Q => tJs ts Str.empty σ H fun out H1 => Q (.str out) H1) ds (.str (ys.foldl (· ++ ·) Str.empty)) := fun G H σ a Q q =>
  h Str.empty G H σ a (by show 0 + _ ≤ _; omega) _ fun G1 H1 e1 s1 => q _ G1 H1 e1 s1 (.str _)
theorem ee_fmtS (h : Ee c te ds (.str y)) (hz : y.length ≤ 1000000) : Ee c (tFmt te) ds (.str y) := fun G H σ a Q q => h G H σ a _ fun v G1 H1 e1 s1 r1 => by
  cases r1
  exact .inl ⟨y, rfl, sz_of hz, q _ G1 H1 e1 s1 (.str y)⟩
theorem ee_fmtI {i : Int} (h : Ee c te ds (.int i)) (hz : i.natAbs.log2 < 1920) : Ee c (tFmt te) ds (.str (toString i)) := fun G H σ a Q q => h G H σ a _ fun v G1 H1 e1 s1 r1 => by
  cases r1
  exact .inr ⟨i, rfl, hz, q _ G1 H1 e1 s1 (.str _)⟩
/-! ### x.split(y) -/
theorem ee_split {a b : Str} (ha : Ee c ta ds (.str a)) (hb : Ee c tb ds (.str b)) (h0 : (b.length == 0) = false) (hz : a.length ≤ 900000) : Ee c (tM1 (fun x xs H Q => ∃ a b, x = .str a ∧ xs = [.str b] ∧ (b.length == 0) = false ∧ a.length + 2 ≤ sizeLine ∧ rNewStrs (Txt.split a b) H Q) ta tb) ds (.lst ((Txt.split a b).map D.str)) :=
  ee_m1 ha hb fun G H v vs s r1 r2 Q t => by
    cases r1
    cases r2 with
    | cons r2 r3 =>
      cases r3; cases r2
      exact ⟨a, b, rfl, rfl, h0, sz_of (by omega), t.lst s (Reps.of_strs _)⟩
/-! ### every second of eight -/
def tEven (K : PySem.W.Frag) (te : TE) : TE := fun σ H Q => te σ H fun x H1 => ∃ a x0 x1 x2 x3 x4 x5 x6 x7, x = .ref a ∧ SqL K H1 a [x0, x1, x2, x3, x4, x5, x6, x7] ∧ ∀ p, H1 p = none → Q (.ref p) (upd H1 p (.lst [x0, x2, x4, x6]))
theorem ee_even {x0 x1 x2 x3 x4 x5 x6 x7 : D} (h : Ee c te ds (.lst [x0, x1, x2, x3, x4, x5, x6, x7])) : Ee c (tEven c.K te) ds (.lst [x0, x2, x4, x6]) := fun G H σ a Q q => h G H σ a _ fun v G1 H1 e1 s1 r1 => by
  cases r1 with
  | lst e r =>
    cases r with | cons r0 r => cases r with | cons r1 r => cases r with | cons r2 r => cases r with | cons r3 r => cases r with | cons r4 r => cases r with | cons r5 r => cases r with | cons r6 r => cases r with | cons r7 r =>
    cases r
    exact ⟨_, _, _, _, _, _, _, _, _, rfl, SqL.of (s1 _ _ e), Then.lst (fun u G3 H3 e3 s3 r3 => q u G3 H3 (e1.trans e3.all) s3 r3) s1 (.cons r0 (.cons r2 (.cons r4 (.cons r6 .nil))))⟩
theorem pick_even (a b c d e f g h : Value) : slicePick #[a, b, c, d, e, f, g, h] (some 0) none (some 2) = #[a, c, e, g] := by
  first
    | rfl
    | with_unfolding_all rfl
    | simp [slicePick]
theorem pe_even {X : Cx} (K : PySem.W.Frag) {e : Expr} {te : TE} {k1 k2 : Nat} {p1 p2 p3 pos : Pos} (hK : X.K = K) (he : PE X e te) : PE X (.Subscript e (.Slice (some (.Constant (.int 0) k1 p1)) none (some (.Constant (.int 2) k2 p2)) p3) pos) (tEven K te) := by
  subst hK
  refine ⟨fun pins s σ H Q I h => ?_⟩
  refine Subscript_ (thn (he.run pins s σ H _ I h) fun v s1 ⟨x, H1, I1, r1, q1⟩ => ?_)
  obtain ⟨a, x0, x1, x2, x3, x4, x5, x6, x7, ex, hx, q⟩ := q1
  subst ex
  cases r1
  have hl : PO X (some (.Constant (.int 0) k1 p1)) (tPart (tC (.int 0))) := po_some pe_int
  have hst : PO X (some (.Constant (.int 2) k2 p2)) (tPart (tC (.int 2))) := po_some pe_int
  refine wpAny_Slice (thn (hl.run pins s1 σ H1 (fun o H2 => o = some 0 ∧ H2 = H1) I1 ⟨0, rfl, rfl, rfl⟩) fun vl s2 ⟨l, H2, I2, pl, el, e2⟩ => ?_)
  subst el e2
  refine thn (po_none.run pins s2 σ H2 (fun o H3 => o = none ∧ H3 = H2) I2 ⟨rfl, rfl⟩) fun vu s3 ⟨u, H3, I3, pu, eu, e3⟩ => ?_
  subst eu e3
  refine thn (hst.run pins s3 σ H3 (fun o H4 => o = some 2 ∧ H4 = H3) I3 ⟨2, rfl, rfl, rfl⟩) fun vs s4 ⟨o, H4, I4, ps, eo, e4⟩ => ?_
  subst eo e4
  have I5 : Inv X pins σ H4 { s4 with heap := s4.heap.push { cls := .type "slice", data := .fields #[vl, vu, vs] } } := I4.kept (t' := s4.toks) fun b ob q => Heap.get?_push_of_some _ q
  obtain ⟨its, r, ht, hz⟩ := I5.list hx
  have hlen := r.length
  show wpAny (model X.prog X.w) X.A (subscriptTail e (.Slice (some (.Constant (.int 0) k1 p1)) none (some (.Constant (.int 2) k2 p2)) p3) (.ref a) (.ref s4.heap.objs.size)) (EP X pins σ Q) X.xe { s4 with heap := s4.heap.push { cls := .type "slice", data := .fields #[vl, vu, vs] } }
  refine tail_any (ops := [.ref a, .ref s4.heap.objs.size]) ht.isList.typeIs (PySem.slot_list_getitem.lookup) ?_ (by with_unfolding_all rfl)
  refine wpAny_getItem_list_slice ht.isList (Heap.IsSliceOf.new _ vl vu vs) pl pu ps (by decide) ?_ (by rw [List.size_toArray]; omega)
  cases r with | cons r0 r => cases r with | cons r1 r => cases r with | cons r2 r => cases r with | cons r3 r => cases r with | cons r4 r => cases r with | cons r5 r => cases r with | cons r6 r => cases r with | cons r7 r =>
  cases r
  rw [pick_even]
  refine ⟨.ref _, _, I5.laid (t' := s4.toks) (o := .lst [x0, x2, x4, x6]) (fun b ob q => Heap.get?_push_of_some _ q) (Nat.le_refl _) ?_, rfl, q _ (I5.hok.fresh (Nat.le_refl _))⟩
  exact ⟨by show 4 ≤ sizeLine; decide, _, 0, .cons r0 (.cons r2 (.cons r4 (.cons r6 .nil))), Heap.get?_push_size _ rfl⟩
/-! ### x or y; None in (a, b); signs among signs; figures -/
theorem ee_orT {x d : D} (h : Ee c ta ds x) (hx : truOk x) (h1 : truD x = true → x = d) (h2 : truD x = false → Ee c tb ds d) : Ee c (tOrT c.K ta tb) ds d := fun G H σ a Q q => h G H σ a _ fun v G1 H1 e1 s1 r1 => by
  refine ⟨truD x, tru_of s1 r1 hx, ?_⟩
  cases e : truD x with
  | true =>
    rw [if_pos rfl]
    exact q v G1 H1 e1 s1 (h1 e ▸ r1)
  | false =>
    rw [if_neg (by decide)]
    exact h2 e G1 H1 σ (a.go e1 s1) Q fun v G2 H2 e2 => q v G2 H2 (e1.trans e2)
theorem rb_inNon {o p : Option Nat} : Rb K (rInG K) .non (.tup [optD o, optD p]) (.bl (o.isNone || p.isNone)) := fun G H v w sb r1 r2 Q t => by
  cases r1
  cases r2 with
  | tup e q =>
    cases q with | cons q1 q => cases q with | cons q2 q =>
    cases q
    refine ⟨_, _, rfl, .inr (ex_t sb e), rfl, ?_, ?_⟩
    · cases o <;> cases p <;> cases q1 <;> cases q2 <;> rfl
    · have := t.same (u := .bl (o.isNone || p.isNone)) sb (.bl _)
      cases o <;> cases p <;> cases q1 <;> cases q2 <;> exact this
def rNinS : R2 := fun x y H Q => ∃ i j, x = .str i ∧ y = .str j ∧ Q (.bl (!(!(PySem.Builtin.Str.occurrences j i 0 j.length 1).isEmpty))) H
theorem k_ninS {X : Cx} : OpR X (compareOp .NotIn) rNinS := op_notIn_str
theorem rb_ninS {j : Str} {k : Nat} : Rb K rNinS (.str ⟨#[k]⟩) (.str j) (.bl (!decide (k ∈ j.cps.toList))) := fun G H v w s r1 r2 Q t => by
  cases r1; cases r2
  refine ⟨_, _, rfl, rfl, ?_⟩
  rw [PySem.StrLaws.found_one]
  exact t.same s (.bl _)
/-- a figure -/
def dg (k : Nat) : Str := ⟨#[48 + k]⟩
theorem dg_toS {k : Nat} (h : k ≤ 9) : (toString ((k : Nat) : Int) : Str) = dg k := by
  have : k = 0 ∨ k = 1 ∨ k = 2 ∨ k = 3 ∨ k = 4 ∨ k = 5 ∨ k = 6 ∨ k = 7 ∨ k = 8 ∨ k = 9 := by omega
  rcases this with h | h | h | h | h | h | h | h | h | h <;> subst h <;> decide +kernel
theorem rc_intDg {k : Nat} (h : k ≤ 9) : Rc K rIntT [.str (dg k)] (.int (k : Nat)) := fun G H vs s r Q t => by
  cases r with
  | cons r r' =>
    cases r'; cases r
    have e : PySem.intText? (dg k) = some ((k : Nat) : Int) := by
      have : k = 0 ∨ k = 1 ∨ k = 2 ∨ k = 3 ∨ k = 4 ∨ k = 5 ∨ k = 6 ∨ k = 7 ∨ k = 8 ∨ k = 9 := by omega
      rcases this with h | h | h | h | h | h | h | h | h | h <;> subst h <;> decide +kernel
    exact ⟨_, _, rfl, e, by show (dg k).length ≤ 640; exact (by decide : 1 ≤ 640), t.same s (.int _)⟩
end
/-! ### an own error with a line -/
/-- its __init__ -/
def spBL (C : Addr) : Sp := fun vs H Q _ => ∃ (a : Addr) (n : Int), vs = [.ref a, .int n] ∧ H a = some (exo a C none) ∧ ∀ dx, H dx = none → dx ≠ a → Q .non (upd (upd H dx (exd dx [("line", .int n)])) a (exo a C (some dx)))
structure OkL (P : Program) (w : World) (K : PySem.W.Frag) (mg : Str → Option Value) (base : Heap) (k : Nat) (x : Str) (C : Addr) : Prop where
  ex : ∃ f fd, FnOk P w K mg base CX0 k f fd ["self", "line"] (spBL C) ∧ PySem.W.findIn K (.ref C) "__init__" = some (some (.ref f)) ∧ PySem.W.typeIn K (.ref f) = some (.type "function") ∧ Binds K fd ["self", "line"] []
  t : OexC K C
  g : mg x = some (.ref C)
structure HasL (K : PySem.W.Frag) (mg : Str → Option Value) (x qual : Str) (C : Addr) (st : Stmt) : Prop where
  ex : ∃ f fd, Fun K "__init__" qual st f fd ∧ PySem.W.findIn K (.ref C) "__init__" = some (some (.ref f)) ∧ PySem.W.typeIn K (.ref f) = some (.type "function") ∧ Binds K fd ["self", "line"] []
  t : OexC K C
  g : mg x = some (.ref C)
  no : PySem.W.findIn K (.ref C) "line" = some none
  xf : XfC K C
theorem HasL.ok {P : Program} {w : World} {K : PySem.W.Frag} {mg : Str → Option Value} {base : Heap} {x qual : Str} {st : Stmt} {N : List Str} {k : Nat} {C : Addr} (h : HasL K mg x qual C st) (S : FnScope N ["self", "line"] (defScope st))
    (hbody : ∀ (f : Addr) (cdv : Value) (A : Around) (outer : List Env) (s : Shared) (H : Hp) (vs : List V) (Q : VK) (E : XK), Room k (A.deeper (envOfC qual (defScope st) s.heap.objs.size f cdv)) → spBL C vs H Q E →
      ∃ t, PSs (cxOf CX0 P w K mg base N qual (defScope st) f cdv A outer s H E).nox (defBody st) t ∧ t { nx := fun _ H' => Q .non H', rt := Q } (L2.start N vs) H) : OkL P w K mg base (k + 1) x C := by
  obtain ⟨f, fd, F, i, tI, b⟩ := h.ex
  exact ⟨⟨f, fd, F.ok S (fun vs H Q E z => by obtain ⟨_, _, e, _⟩ := z; rw [e]; rfl) (hbody f), i, tI, b⟩, h.t, h.g⟩
def tRaiseL (W : WX) (C : Addr) (ta : TA) : TS := fun _ σ H => tMkO C (spBL C) [] ta σ H fun cls d H' => W cls d σ H'
theorem ps_raiseLine {X : Cx} {W : WX} {C : Addr} {x : Str} {k : Nat} {e : Expr} {ta : TA} {p pos pos2 : Pos} (hc : X.calm = true) (T : OkL X.prog X.w X.K X.mg X.base k x C) (hr : Room (k + 1) X.A) (tk : Takes X W) (hg : Gl X x) (ha : PA X [e] ta)
    (hdb : (x == ("__debug__" : Str)) = false := by decide) (he : starEach [e] X.env = (false, eval e X.env) :: starEach [] X.env := by rfl) (hpl : (backTo pos (starEach [] X.env)).any (·.1) = false := by rfl) :
    PS X (.Raise (some (.Call (.Name x p) [e] [] pos)) none pos2) (tRaiseL W C ta) := by
  obtain ⟨f, fd, F, i, tI, b⟩ := T.ex
  exact ps_raise hc tk (pmk_oex T.t i tI F hr b .nil (fun _ _ _ _ _ _ _ h => h.elim) hg T.g ha hdb he hpl)
theorem del_heap {H1 : Hp} {a dx : Addr} {o1 o2 o3 o4 : HO} (ha : H1 a = none) (hne : dx ≠ a) : upd (del (upd (upd (upd H1 a o1) dx o2) a o3) a) dx o4 = upd H1 dx o4 := by
  funext b
  by_cases h1 : b = dx
  · subst h1; rw [upd_same, upd_same]
  · rw [upd_ne h1, upd_ne h1]
    by_cases h2 : b = a
    · subst h2; rw [del_same, ha]
    · rw [del_ne h2, upd_ne h2, upd_ne h1, upd_ne h2]
theorem st_raiseL {c : Ctx} {n : DE} {ds : Fm} {C : Addr} {ta : TA} {i : Int} (h : Ea c ta ds [.int i]) (k : n.er (.ref C) (some i)) : St c (tRaiseL (fun cls d _ H => c.X cls d H) C ta) n ds := fun G H σ at' E l => h G H σ at' _ fun vs G1 H1 e1 s1 r1 => by
  cases r1 with
  | cons r1 r2 =>
    cases r2
    cases r1
    refine ⟨by show 1 ≤ 1000; decide, fun a ha => ⟨a, i, rfl, upd_same, fun dx hdx hne => ⟨rfl, dx, [("line", .int i)], upd_same, by rw [upd_ne hne, upd_same], ?_, ?_⟩⟩⟩
    · rwa [upd_ne hne] at hdx
    · rw [del_heap ha hne]
      have := l.er G1 H1 (.ref C) (some i) e1.s s1 k
      exact this dx (by rwa [upd_ne hne] at hdx)
/-- try: f(..) ; except C as e: y = e.line -/
theorem st_try_line {α : Type} {args : α → List D} {pre : α → Prop} {res : α → Res} {c : Ctx} {ds : Fm} {ta : TA} {a : α} {xs : List D} {n : DE} {C : Addr} {Wout : WX} {i j : Nat} (h : Ea c ta ds xs) (hx : xs = args a) (hp : pre a) (hi : ds[i]? = some .no) (hj : j < ds.length) (hij : i ≠ j) (hm : PySem.W.exmOne c.K (.ref C) (.ref C) = some true)
    (h1 : ∀ d, res a = .ok d → n.nx ds) (h2 : ∀ C' o, res a = .err C' o → ∃ m : Int, C' = .ref C ∧ o = some m ∧ n.nx (ds.set j (.v (.int m)))) :
    St c (fun D σ H => tDrop (tCallS (spA c.K args pre res) (WE (wAs c.K (.ref C) i (fun b cls d => tAsg (tXf b cls d C "line" (tVar i)) (gName j)) Wout D)) ta) D σ H) n ds := fun G H σ at' E l =>
  h G H σ at' _ fun vs G1 H1 e1 s1 r1 => by
    subst hx
    refine ⟨G1, a, s1, r1, hp, fun d' hd u G2 H2 e2 s2 r2 => l.nx G2 H2 σ ds (e1.trans e2.all).s (at'.go (e1.trans e2.all) s2) (h1 d' hd), fun C' o z G2 H2 e2 s2 => ?_⟩
    obtain ⟨m, rfl, rfl, k⟩ := h2 C' o z
    intro dd hdd
    refine ⟨true, hm, fun _ b hb => ?_, fun z => nomatch z⟩
    have hlt : i < σ.length := by rw [at'.fr.len]; exact (List.getElem?_eq_some_iff.mp hi).1
    refine ⟨.ref b, by rw [List.getElem?_set_self hlt], rfl, rfl, dd, [("line", .int m)], .int m, rfl, upd_same, by simp [List.lookup], ?_⟩
    -- the handler's name is gone, the number stands
    have e3 : Ext c.l G2 H2 G2 (upd H2 dd (.xd [("line", .int m)])) := Ext.refl.mut hdd
    have g2 : G2 dd = none := sub_none s2 hdd
    have a2 := at'.go ((e1.trans e2.all).trans e3) (sub_hid s2 g2)
    show E.nx (((σ.set i (some (.ref b))).set j (some (.int m))).set i none) _
    have es : ((σ.set i (some (.ref b))).set j (some (.int m))).set i none = (σ.set i none).set j (some (.int m)) := by
      apply List.ext_getElem?
      intro q
      by_cases h1 : i = q
      · subst h1
        rw [List.getElem?_set_self (by simpa using hlt), List.getElem?_set_ne (Ne.symm hij), List.getElem?_set_self hlt]
      · rw [List.getElem?_set_ne h1]
        by_cases h2 : j = q
        · subst h2
          by_cases h3 : j < σ.length
          · rw [List.getElem?_set_self (by simpa using h3), List.getElem?_set_self (by simpa using h3)]
          · rw [List.getElem?_eq_none (by simp; omega), List.getElem?_eq_none (by simp; omega)]
        · rw [List.getElem?_set_ne h2, List.getElem?_set_ne h1, List.getElem?_set_ne h2, List.getElem?_set_ne h1]
    rw [es]
    have f3 := (a2.fr.no (i := i) none)
    have ed : ds.set i .no = ds := by
      apply List.ext_getElem?
      intro q
      by_cases h1 : i = q
      · subst h1; rw [List.getElem?_set_self (List.getElem?_eq_some_iff.mp hi).1, hi]
      · rw [List.getElem?_set_ne h1]
    rw [ed] at f3
    exact l.nx G2 _ _ _ ((e1.trans e2.all).trans e3).s ⟨a2.sub, f3.set (.int m) hj, a2.lk, a2.tr⟩ k
end Dl

/-! Dzd: an own list by a comprehension. -/
namespace Dl
open PySem L2 Evl PySem.Spec PyProof.Rows
section
variable {c : Ctx} {ds : Fm} {te : TE} {g : TG} {n : DE} {tt : TT} {xs : List D}
theorem st_ownLc {wi : TI} {vs js : List Nat} {i0 : Nat} (hi : Ei c wi ds xs) (out : Nat → List D) (h0 : out 0 = []) (hz : xs.length ≤ 1000000)
    (hl : ∀ i, i ≤ xs.length → (out i).length ≤ i) (hv : ∀ j ∈ js, j ∈ vs)
    (hs : ∀ i d, xs[i]? = some d → ∃ ds2 b, Eg c g d (wipeD ds vs) ds2 js ∧ Et c tt ds2 b ∧ (b = true → ∃ e, Ee c te ds2 e ∧ out (i + 1) = out i ++ [e]) ∧ (b = false → out (i + 1) = out i))
    (hi0 : i0 < ds.length) (k : n.nx (ds.set i0 (.own (out xs.length)))) : St c (tAsg (tLc wi g tt te vs) (gName i0)) n ds := fun G0 H0 σ at' E l => hi G0 H0 σ at' _ fun J G1 H1 e1 s1 it => by
  intro Dl hDl
  have at1 : At c G1 H1 σ ds := at'.go e1 s1
  have hg1 : G1 Dl = none := sub_none s1 hDl
  have hne : NotL c.l Dl := fun y z => (at1.lk Dl y z).1 hDl
  let P : Nat → Hp → Prop := fun i H => ∃ G ys, Ext c.l G1 H1 G H ∧ Ex G H ∧ G Dl = none ∧ H Dl = some (.lst ys) ∧ Reps c.K G ys (out i)
  refine ⟨fun i m H => i ≤ xs.length ∧ m = xs.length - i ∧ P i H, ⟨xs.length, Nat.zero_le _, rfl, G1, [], Ext.refl.mut hDl, sub_hid s1 hg1, hg1, upd_same, by rw [h0]; exact .nil⟩, ?_⟩
  rintro i m H ⟨il, rfl, G, ys, eg, sb, gd, hd, rp⟩
  by_cases hlt : i < xs.length
  · refine .inr ⟨it.go i G H eg.g sb hlt, P (i + 1), fun H' p => ⟨xs.length - (i + 1), by omega, hlt, rfl, p⟩, fun x H' y => ?_⟩
    obtain ⟨d, G2, hd', ex, sb2, rx⟩ := it.yld i G H x H' eg.g sb hlt y
    obtain ⟨ds2, b, hg, ht, hT, hF⟩ := hs i d hd'
    have e2 : Ext c.l G1 H1 G2 H' := eg.trans ex.all
    have at2 : At c G2 H' (wipe σ vs) (wipeD ds vs) := (at1.go e2 sb2).wipe vs
    refine hg G2 H' _ x at2 rx _ fun σ2 a2 len2 keep => ⟨wipe_same (by rw [len2, wipe_length]) fun k hk => keep k fun z => hk (hv k z), ?_⟩
    have nd : ∀ {G3 H3}, Ext c.l G2 H' G3 H3 → G3 Dl = none ∧ H3 Dl = some (.lst ys) := fun e3 => by
      have h1 : H' Dl = some (.lst ys) := ex.h Dl _ (fun _ z => nomatch z) hd
      refine ⟨e3.n Dl (by rw [h1]; simp) (ex.n Dl (by rw [hd]; simp) gd), e3.h Dl _ hne h1⟩
    refine ht G2 H' σ2 a2 _ fun G3 H3 e3 s3 => ?_
    cases b with
    | true =>
      obtain ⟨e, he, ho⟩ := hT rfl
      refine he G3 H3 σ2 (a2.go e3 s3) _ fun v G4 H4 e4 s4 r4 => ?_
      obtain ⟨n1, n2⟩ := nd (e3.trans e4)
      have g4 : Ext c.l G1 H1 G4 H4 := (e2.trans e3).trans e4
      have len : ys.length ≤ i := by rw [rp.len]; exact hl i il
      refine ⟨ys, n2, sz_lt (by omega), G4, ys ++ [v], g4.mut hDl, sub_hid s4 n1, n1, upd_same, ?_⟩
      rw [ho]
      exact (rp.mono ((ex.g.trans e3.g).trans e4.g)).app (.cons r4 .nil)
    | false =>
      obtain ⟨n1, n2⟩ := nd e3
      exact ⟨G3, ys, e2.trans e3, s3, n1, n2, by rw [hF rfl]; exact rp.mono (ex.g.trans e3.g)⟩
  · have e : i = xs.length := by omega
    subst e
    have a2 := at1.go eg sb
    refine .inl ⟨it.stop G H eg.g sb, l.nx G H _ _ (e1.trans eg).s ⟨a2.sub, a2.fr.own hi0 gd hd rp hne (fun w => at1.tr Dl w hDl) (fun b z => (at1.lk b Dl z).2.2 hDl) fun j ys' hj ee => ?_, a2.lk, a2.tr⟩ k⟩
    obtain ⟨b, ws, q1, _, q3, _⟩ := at1.fr.ok j _ hj
    rw [ee] at q1
    have q : V.ref Dl = V.ref b := Option.some.inj (Option.some.inj q1)
    cases q
    rw [hDl] at q3; cases q3
end
section
variable {c : Ctx} {ds : Fm} {te : TE} {g : TG} {n : DE} {α : Type} {ys : List α} {gD h : α → D} {wi : TI} {vs js : List Nat} {i0 : Nat}
theorem st_ownLcA (hi : Ei c wi ds (ys.map gD)) (h : α → D) (hz : ys.length ≤ 1000000) (hv : ∀ j ∈ js, j ∈ vs)
    (hs : ∀ (i : Nat) y, ys[i]? = some y → ∃ ds2, Eg c g (gD y) (wipeD ds vs) ds2 js ∧ Ee c te ds2 (h y)) (hi0 : i0 < ds.length) (k : n.nx (ds.set i0 (.own (ys.map h)))) : St c (tAsg (tLc wi g tYes te vs) (gName i0)) n ds :=
  st_ownLc (tt := tYes) (te := te) (g := g) (vs := vs) (js := js) hi (fun i => (ys.take i).map h) (by simp) (by rw [List.length_map]; exact hz) (fun i hi => by simp; omega) hv (fun i d hd => by
    rw [List.getElem?_map] at hd
    cases e : ys[i]? with
    | none => rw [e] at hd; cases hd
    | some y =>
      rw [e] at hd
      have hd' : gD y = d := Option.some.inj hd
      subst hd'
      obtain ⟨ds2, h1, h2⟩ := hs i y e
      refine ⟨ds2, true, h1, et_yes, fun _ => ⟨h y, h2, ?_⟩, fun z => nomatch z⟩
      rw [List.take_succ, List.map_append, e]; rfl) hi0 (by rw [List.length_map, List.take_of_length_le (Nat.le_refl _)]; exact k)
end
end Dl

/-! Dr: an instance that holds a list of its own. -/
namespace Dl
open PySem L2 Evl PySem.Spec PyProof.Rows
theorem Reps.dropLast {K : PySem.W.Frag} {G : Hp} {vs : List V} {ds : List D} (r : Reps K G vs ds) : Reps K G vs.dropLast ds.dropLast := by
  rw [List.dropLast_eq_take, List.dropLast_eq_take, r.len]
  exact r.take _
theorem RdH.ne {K : PySem.W.Frag} {G H : Hp} {p q dx C : Addr} {d : D} {xs : List D} (h : RdH K G H p q dx C d xs) : p ≠ q := by
  obtain ⟨u, vs, k1, k2, k3, k4, k5, k6⟩ := h
  intro z
  rw [z, k4] at k3; cases k3
section
variable {c : Ctx} {ds : Fm} {n : DE} {te : TE} {ta : TA} {d e : D} {xs ys : List D} {i j : Nat} {w : Bool} {p q dx C : Addr}
theorem rd_at {G H : Hp} {σ : L2.St} (a : At c G H σ ds) (hx : ds[i]? = some (.rdr w p q dx C d xs)) : σ[i]? = some (some (.ref p)) ∧ RdH c.K G H p q dx C d xs := by
  have h := a.fr.ok i _ hx
  exact ⟨h.1, h.2.1⟩
theorem ee_rcode (hx : ds[i]? = some (.rdr w p q dx C d xs)) (hc : Cls c.K C) (hn : NoAttr c.K C "code") : Ee c (tFld c.K (tVar i) "code") ds d := fun G H σ a Q q' => by
  obtain ⟨h1, u, vs, k1, k2, k3, k4, k5, k6⟩ := rd_at a hx
  exact ⟨_, h1, p, C, dx, _, u, rfl, k3, hc, hn, rfl, q' u G H Ext.refl a.sub k5⟩
theorem rd_fed {G H : Hp} {σ : L2.St} {Q : VK} (hx : ds[i]? = some (.rdr w p q dx C d xs)) (hc : Cls c.K C) (hn : NoAttr c.K C "fed") (a : At c G H σ ds) (h : ∀ vs, G q = none → H q = some (.lst vs) → Reps c.K G vs xs → Q (.ref q) H) : tFld c.K (tVar i) "fed" σ H Q := by
  obtain ⟨h1, u, vs, k1, k2, k3, k4, k5, k6⟩ := rd_at a hx
  exact ⟨_, h1, p, C, dx, _, .ref q, rfl, k3, hc, hn, rfl, h vs k2 k4 k6⟩
theorem ee_rjoin {l : List Bool} (hx : ds[i]? = some (.rdr w p q dx C d xs)) (hc : Cls c.K C) (hn : NoAttr c.K C "fed") (e : xs = l.map fun b => .str (bs [b])) (hz : l.length ≤ 1000000) : Ee c (tM1 (rJoin c.K) (tC (.str "")) (tFld c.K (tVar i) "fed")) ds (.str (bs l)) := fun G H σ a Q q' =>
  ⟨⟨_, rfl⟩, rd_fed hx hc hn a fun vs _ h4 r => by
    have r' : Reps c.K G vs ((l.map fun b => bs [b]).map D.str) := by rw [List.map_map]; rw [e] at r; exact r
    have hv := r'.strs
    subst hv
    refine ⟨_, _, l.map fun b => bs [b], rfl, rfl, .inl (SqL.of h4), ?_, ?_⟩
    · have e0 : ("" : Str).length = 0 := by decide
      rw [sum_ones, e0]; omega
    · rw [join_bits]; exact q' _ G H Ext.refl a.sub (.str _)⟩
theorem et_rtru (hx : ds[i]? = some (.rdr w p q dx C d xs)) (hc : Cls c.K C) (hn : NoAttr c.K C "fed") : Et c (tTruG c.K (tFld c.K (tVar i) "fed")) ds (!xs.isEmpty) := fun G H σ a Q q' =>
  rd_fed hx hc hn a fun vs _ h4 r => ⟨!xs.isEmpty, .inl ⟨_, SqL.of h4, by rw [empty_reps r]⟩, q' G H Ext.refl a.sub⟩
theorem ee_rlen (hx : ds[i]? = some (.rdr w p q dx C d xs)) (hc : Cls c.K C) (hn : NoAttr c.K C "fed") : Ee c (tCB (rLenG c.K) (tCons (tFld c.K (tVar i) "fed") tNil)) ds (.int (xs.length : Nat)) := fun G H σ a Q q' =>
  rd_fed hx hc hn a fun vs _ h4 r => ⟨_, xs.length, rfl, .inl ⟨_, SqL.of h4, by rw [r.len]⟩, q' _ G H Ext.refl a.sub (.int _)⟩
/-- the reader's list changes -/
theorem At.rmut {E : XK} {G H G1 H1 : Hp} {σ : L2.St} (a : At c G H σ ds) (hx : ds[i]? = some (.rdr true p q dx C d xs)) (fl : (ds.set i .no).all flatS = true)
    (e : Exs ⟨c.K, none, E, fun b => H b ≠ none, fun b => b = p ∨ b = q⟩ G H G1 H1) (s : Ex G1 H1) (rd : RdH c.K G1 H1 p q dx C d ys) : Exs c G H G1 H1 ∧ At c G1 H1 σ (ds.set i (.rdr true p q dx C d ys)) := by
  obtain ⟨h1, rd0, nlp, nlq, nip, niq, pw⟩ := a.fr.ok i _ hx
  have hi : i < ds.length := (List.getElem?_eq_some_iff.mp hx).1
  have keep : ∀ b o, b ≠ p → b ≠ q → H b = some o → H1 b = some o := fun b o hp hq h => e.h b o (by show H b ≠ none; rw [h]; simp) (fun z => z.elim hp hq) (fun _ z => (nomatch z)) h
  have dr : ∀ b y, c.l = some (b, y) → DrawsOk H b y → DrawsOk H1 b y := fun b y hb z => by
    obtain ⟨ns, i', j, s, q1, q2, r⟩ := z
    exact ⟨ns, i', j, s, keep b _ (fun z => nlp y (by rw [← z]; exact hb)) (fun z => nlq y (by rw [← z]; exact hb)) q1, keep y _ (fun z => nip b (by rw [← z]; exact hb)) (fun z => niq b (by rw [← z]; exact hb)) q2, r⟩
  refine ⟨⟨e.g, fun b o w m _ h => keep b o (fun z => m ?_) (fun z => m ?_) h, fun b w hb g => e.n b hb hb g, e.t, dr⟩, ⟨s, ⟨by rw [List.length_set]; exact a.fr.len, fun j s' hs => ?_, fun j j' b xs' ys' hjj hj hj' e2 e3 => ?_⟩, fun b y hb => ⟨e.t b (a.lk b y hb).1, e.n b (a.lk b y hb).1 (a.lk b y hb).1 (a.lk b y hb).2.1, e.t y (a.lk b y hb).2.2⟩, fun b hb => e.t b (a.tr b hb)⟩⟩
  · rw [z]; exact (pw rfl).1 (by rw [← z]; exact w)
  · rw [z]; exact (pw rfl).2 (by rw [← z]; exact w)
  · by_cases hj : i = j
    · subst hj
      rw [List.getElem?_set_self hi] at hs
      cases hs
      exact ⟨h1, rd, nlp, nlq, nip, niq, pw⟩
    · rw [List.getElem?_set_ne hj] at hs
      have o := a.fr.ok j s' hs
      have f := List.all_eq_true.mp fl s' (List.mem_of_getElem? (by rw [List.getElem?_set_ne hj]; exact hs))
      cases s' with
      | no => trivial
      | v d => obtain ⟨u, o1, o2⟩ := o; exact ⟨u, o1, o2.mono e.g⟩
      | drw =>
        obtain ⟨b, y, o1, o2, o3, o4⟩ := o
        exact ⟨b, y, o1, o2, e.n b (a.lk b y o1).1 (a.lk b y o1).1 o3, dr b y o1 o4⟩
      | own _ => cases f
      | self _ _ _ _ _ => cases f
      | rdr _ _ _ _ _ _ _ => cases f
  · have nj : i ≠ j := fun z => by subst z; rw [List.getElem?_set_self hi] at hj; cases hj
    rw [List.getElem?_set_ne nj] at hj
    have f := List.all_eq_true.mp fl _ (List.mem_of_getElem? (i := j) (by rw [List.getElem?_set_ne nj]; exact hj))
    cases f
theorem rd_upd {E : XK} {G H : Hp} {vs : List V} (rd : RdH c.K G H p q dx C d xs) (r : Reps c.K G vs ys) : Exs ⟨c.K, none, E, fun b => H b ≠ none, fun b => b = p ∨ b = q⟩ G H G (upd H q (.lst vs)) ∧ RdH c.K G (upd H q (.lst vs)) p q dx C d ys := by
  have ne := rd.ne
  obtain ⟨u, vs', k1, k2, k3, k4, k5, k6⟩ := rd
  refine ⟨⟨Ex.refl _, fun b o _ m _ h => by rw [upd_ne (fun z => m (.inr z))]; exact h, fun b _ _ g => g, fun b h => ?_, fun _ _ z => nomatch z⟩, ⟨u, vs, k1, k2, by rw [upd_ne ne]; exact k3, upd_same, k5, r⟩⟩
  by_cases hb : b = q
  · subst hb; rw [upd_same]; simp
  · rw [upd_ne hb]; exact h
/-- self.fed.append(e) -/
theorem st_rapp (hx : ds[i]? = some (.rdr true p q dx C d xs)) (hc : Cls c.K C) (hn : NoAttr c.K C "fed") (h : Ee c te ds e) (hz : xs.length < 1000000) (k : n.nx (ds.set i (.rdr true p q dx C d (xs ++ [e])))) (fl : (ds.set i .no).all flatS = true := by rfl) :
    St c (tDrop (tBM c.K "list" rAppend (tFld c.K (tVar i) "fed") (tCons te tNil))) n ds := fun G H σ a E l => by
  unfold tDrop tBM
  refine rd_fed hx hc hn a fun vs _ h4 r => ⟨.inl ⟨rfl, _, SqL.of h4⟩, h G H σ a _ fun v G1 H1 e1 s1 r1 => by
    have a1 := a.go e1 s1
    have rd := (rd_at a1 hx).2
    obtain ⟨u, vs', k1, k2, k3, k4, k5, k6⟩ := id rd
    refine ⟨q, vs', v, rfl, rfl, k4, sz_lt (by rw [k6.len]; exact hz), ?_⟩
    obtain ⟨ex, rd'⟩ := rd_upd (E := c.X) rd (k6.app (.cons r1 .nil))
    obtain ⟨ex2, a2⟩ := a1.rmut hx fl ex (sub_hid s1 k2) rd'
    exact l.nx G1 _ σ _ (e1.s.trans ex2) a2 k⟩
/-- self.fed.pop() -/
theorem st_rpop (hx : ds[i]? = some (.rdr true p q dx C d xs)) (hc : Cls c.K C) (hn : NoAttr c.K C "fed") (hz : xs ≠ []) (k : n.nx (ds.set i (.rdr true p q dx C d xs.dropLast))) (fl : (ds.set i .no).all flatS = true := by rfl) :
    St c (tDrop (tBM0 c.K "list" rPop (tFld c.K (tVar i) "fed"))) n ds := fun G H σ a E l => by
  unfold tDrop tBM0
  refine rd_fed hx hc hn a fun vs _ h4 r => by
    have rd := (rd_at a hx).2
    obtain ⟨u, vs', k1, k2, k3, k4, k5, k6⟩ := id rd
    have hl : 0 < xs.length := List.length_pos_iff.mpr hz
    have hv : vs'.length - 1 < vs'.length := by rw [k6.len]; omega
    refine ⟨.inl ⟨rfl, _, SqL.of h4⟩, q, vs', vs'[vs'.length - 1], rfl, rfl, k4, List.getElem?_eq_getElem hv, ?_⟩
    obtain ⟨ex, rd'⟩ := rd_upd (E := c.X) rd k6.dropLast
    obtain ⟨ex2, a2⟩ := a.rmut hx fl ex (sub_hid a.sub k2) rd'
    exact l.nx G _ σ _ ex2 a2 k
end
/-! ### methods -/
def spM {α : Type} (K : PySem.W.Frag) (C : Addr) (code : α → D) (fed : α → List D) (pre : α → Prop) (res : α → D) : Sp := fun vs H Q E => ∃ G a p q dx, Ex G H ∧ vs = [.ref p] ∧ pre a ∧ RdH K G H p q dx C (code a) (fed a) ∧ Then K G H (res a) Q
inductive Wr where
  | ok (d : D) (xs : List D) | err (C : Addr)
def spW {α : Type} (K : PySem.W.Frag) (C : Addr) (args : α → List D) (code : α → D) (fed : α → List D) (pre : α → Prop) (res : α → Wr) : Sp := fun vs H Q E => ∃ G a p q dx us, Ex G H ∧ vs = .ref p :: us ∧ Reps K G us (args a) ∧ pre a ∧ RdH K G H p q dx C (code a) (fed a) ∧
  (∀ d xs, res a = .ok d xs → ∀ v G1 H1, Exs ⟨K, none, E, fun b => H b ≠ none, fun b => b = p ∨ b = q⟩ G H G1 H1 → Ex G1 H1 → RdH K G1 H1 p q dx C (code a) xs → Rep K G1 v d → Q v H1) ∧
  ∀ C', res a = .err C' → ∀ G1 H1, Exs ⟨K, none, E, fun b => H b ≠ none, fun b => b = p ∨ b = q⟩ G H G1 H1 → Ex G1 H1 → RdH K G1 H1 p q dx C (code a) (fed a) → E (.ref C') none H1
theorem spM_len {α : Type} {K : PySem.W.Frag} {C : Addr} {code : α → D} {fed : α → List D} {pre : α → Prop} {res : α → D} : ∀ vs H Q E, spM K C code fed pre res vs H Q E → vs.length = 1 := fun vs H Q E h => by
  obtain ⟨G, a, p, q, dx, _, e, _⟩ := h
  rw [e]; rfl
theorem spW_len {α : Type} {K : PySem.W.Frag} {C : Addr} {args : α → List D} {code : α → D} {fed : α → List D} {pre : α → Prop} {res : α → Wr} {k : Nat} (hk : ∀ a, (args a).length + 1 = k) : ∀ vs H Q E, spW K C args code fed pre res vs H Q E → vs.length = k := fun vs H Q E h => by
  obtain ⟨G, a, p, q, dx, us, _, e, r, _⟩ := h
  rw [e, List.length_cons, r.len, hk]
theorem rd_slots {c : Ctx} {G H : Hp} {us : List V} {xs : List D} {N : List Str} {x : V} {s0 : Sl} (hN : 0 < N.length) (s : Ex G H) (r : Reps c.K G us xs) (h0 : SlOk c G H (some (some x)) s0) (hs : ∀ ys, s0 ≠ .own ys) :
    Fr c G H (L2.start N (x :: us)) (s0 :: (xs.map Sl.v ++ List.replicate (N.length - 1 - xs.length) Sl.no)) := by
  obtain ⟨N0, Nr, rfl⟩ : ∃ a l, N = a :: l := by cases N with | nil => simp at hN | cons a l => exact ⟨a, l, rfl⟩
  have f := slots (c := c) (N := Nr) s r
  have e : L2.start (N0 :: Nr) (x :: us) = some x :: L2.start Nr us := by unfold L2.start; simp
  rw [e]
  refine ⟨?_, fun i s' hs' => ?_, fun i j b ys zs hij hi hj e1 e2 => ?_⟩
  · have := f.len; simp only [List.length_cons, Nat.add_sub_cancel]; omega
  · cases i with
    | zero => simp at hs'; subst hs'; exact h0
    | succ i => exact f.ok i s' (by simpa using hs')
  · cases i with
    | zero => simp at hi; exact absurd hi (hs _)
    | succ i => cases j with
      | zero => simp at hj; exact absurd hj (hs _)
      | succ j => exact f.ap i j b ys zs (by omega) (by simpa using hi) (by simpa using hj) (by simpa using e1) (by simpa using e2)
section
variable {α : Type} {K : PySem.W.Frag} {C : Addr} {args : α → List D} {code : α → D} {fed : α → List D} {pre : α → Prop}
theorem go_m {res : α → D} {N : List Str} {t : TS} {vs : List V} {H : Hp} {Q : VK} {E : XK} (h : spM K C code fed pre res vs H Q E)
    (k : ∀ (a : α) (W : Addr → Prop) (p q dx : Addr), pre a → St ⟨K, none, E, W, fun _ => False⟩ t { nx := fun _ => res a = .non, rt := fun d => res a = d } (.rdr false p q dx C (code a) (fed a) :: (([] : List D).map Sl.v ++ List.replicate (N.length - 1 - ([] : List D).length) Sl.no))) (hN : 0 < N.length) :
    t { nx := fun _ H' => Q .non H', rt := Q } (L2.start N vs) H := by
  obtain ⟨G, a, p, q, dx, s, rfl, hp, rd, h1⟩ := h
  have up : ∀ {G' H'}, Exs ⟨K, none, E, fun b => H b ≠ none, fun _ => False⟩ G H G' H' → Ext none G H G' H' := fun e =>
    ⟨e.g, fun b o _ q => e.h b o (by show H b ≠ none; rw [q]; simp) (fun z => z) (fun _ z => (nomatch z)) q, fun b q z => e.n b q q z, e.t, fun b _ z => (nomatch z)⟩
  refine k a (fun b => H b ≠ none) p q dx hp G H _ ⟨s, rd_slots hN s .nil ⟨rfl, rd, fun _ z => (nomatch z), fun _ z => (nomatch z), fun _ z => (nomatch z), fun _ z => (nomatch z), fun z => (nomatch z)⟩ (fun _ z => (nomatch z)), fun b _ z => (nomatch z), fun b z => z⟩ _ ⟨fun G' H' σ ds x a' z => h1 _ G' H' (up x) a'.sub (by rw [z]; exact .non), fun G' H' v d x s' r' z => h1 v G' H' (up x) s' (by rw [z]; exact r'), fun _ _ _ _ _ _ z => z.elim, fun _ _ _ _ _ _ z => z.elim, fun _ _ _ _ _ _ z => z.elim, fun _ _ _ _ _ _ _ _ _ z => z.elim, fun _ _ _ _ _ _ _ z => z.elim⟩
theorem go_w {res : α → Wr} {N : List Str} {t : TS} {vs : List V} {H : Hp} {Q : VK} {E : XK} (h : spW K C args code fed pre res vs H Q E)
    (k : ∀ (a : α) (W : Addr → Prop) (p q dx : Addr), pre a → St ⟨K, none, E, W, fun b => b = p ∨ b = q⟩ t { nx := fun ds => ∃ xs, res a = .ok .non xs ∧ ds[0]? = some (.rdr true p q dx C (code a) xs), rt := fun _ => False, rf := fun d ds => ∃ xs, res a = .ok d xs ∧ ds[0]? = some (.rdr true p q dx C (code a) xs), ef := fun C' ds => ∃ D', C' = .ref D' ∧ res a = .err D' ∧ ds[0]? = some (.rdr true p q dx C (code a) (fed a)) } (.rdr true p q dx C (code a) (fed a) :: ((args a).map Sl.v ++ List.replicate (N.length - 1 - (args a).length) Sl.no))) (hN : 0 < N.length) :
    t { nx := fun _ H' => Q .non H', rt := Q } (L2.start N vs) H := by
  obtain ⟨G, a, p, q, dx, us, s, rfl, r, hp, rd, h1, h2⟩ := h
  refine k a (fun b => H b ≠ none) p q dx hp G H _ ⟨s, rd_slots hN s r ⟨rfl, rd, fun _ z => (nomatch z), fun _ z => (nomatch z), fun _ z => (nomatch z), fun _ z => (nomatch z), fun _ => ⟨fun _ => .inl rfl, fun _ => .inr rfl⟩⟩ (fun _ z => (nomatch z)), fun b _ z => (nomatch z), fun b z => z⟩ _ ⟨fun G' H' σ ds x a' z => ?_, fun _ _ _ _ _ _ _ z => z.elim, fun _ _ _ _ _ _ z => z.elim, fun _ _ _ _ _ _ z => z.elim, fun _ _ _ _ _ _ z => z.elim, fun G' H' σ ds v d x a' r' z => ?_, fun G' H' σ ds C' x a' z => ?_⟩
  · obtain ⟨xs, e1, e2⟩ := z
    exact h1 _ _ e1 .non G' H' x a'.sub (rd_at a' e2).2 .non
  · obtain ⟨xs, e1, e2⟩ := z
    exact h1 _ _ e1 v G' H' x a'.sub (rd_at a' e2).2 r'
  · obtain ⟨D', rfl, e1, e2⟩ := z
    exact h2 _ e1 G' H' x a'.sub (rd_at a' e2).2
end
section
variable {c : Ctx} {ds ds' : Fm} {n : DE} {te : TE} {d : D} {t : TS}
theorem st_retF (h : Ee c te ds d) (k : n.rf d ds) : St c (tRet te) n ds := fun G H σ a E l => h G H σ a _ fun v G1 H1 e1 s1 r1 => l.rf G1 H1 σ ds v d e1.s (a.go e1 s1) r1 k
theorem st_raiseF {C : Addr} (h : n.ef (.ref C) ds) : St c (tRaise0 (fun cls d _ H => c.X cls d H) C) n ds := fun G H σ a E l => l.ef G H σ ds (.ref C) Exs.refl a h
end
section
variable {α : Type} {code : α → D} {fed : α → List D} {pre : α → Prop} {args : α → List D} {c : Ctx} {ds : Fm} {n : DE} {ta : TA} {a : α} {xs ys : List D} {d : D} {i j : Nat} {w : Bool} {p q dx C : Addr} {m : Str}
theorem ee_meth0 {res : α → D} {E : XK} (hx : ds[i]? = some (.rdr w p q dx C d xs)) (hd : d = code a) (hf : xs = fed a) (hp : pre a) (h1 : (m == "code") = false := by decide) (h2 : (m == "fed") = false := by decide) : Ee c (tMeth C m (spM c.K C code fed pre res) [] E (tVar i) tNil) ds (res a) := fun G H σ at' Q q' => by
  subst hd hf
  obtain ⟨s1, rd⟩ := rd_at at' hx
  obtain ⟨u, vs, k1, k2, k3, k4, k5, k6⟩ := id rd
  exact ⟨_, s1, p, dx, _, rfl, k3, by simp only [List.lookup, h1, h2], G, a, p, q, dx, at'.sub, rfl, hp, rd, fun u G2 H2 e2 s2 r2 => q' u G2 H2 e2.all s2 r2⟩
/-- a method that changes its reader, called as a statement -/
theorem w_run {res : α → Wr} {G H : Hp} {σ : L2.St} {E : XK} {Q : VK} {vs : List V} (at' : At c G H σ ds) (hx : ds[i]? = some (.rdr true p q dx C d xs)) (r : Reps c.K G vs (args a)) (hd : d = code a) (hf : xs = fed a) (hp : pre a) (fl : (ds.set i .no).all flatS = true)
    (h1 : ∀ e ys, res a = .ok e ys → ∀ v G1 H1, Exs c G H G1 H1 → At c G1 H1 σ (ds.set i (.rdr true p q dx C d ys)) → Rep c.K G1 v e → Q v H1)
    (h2 : ∀ C', res a = .err C' → ∀ G1 H1, Exs c G H G1 H1 → At c G1 H1 σ ds → E (.ref C') none H1) : spW c.K C args code fed pre res (.ref p :: vs) H Q E := by
  subst hd hf
  refine ⟨G, a, p, q, dx, vs, at'.sub, rfl, r, hp, (rd_at at' hx).2, fun e ys he v G1 H1 x s rd rv => ?_, fun C' he G1 H1 x s rd => ?_⟩
  · obtain ⟨x2, a2⟩ := at'.rmut hx fl x s rd
    exact h1 e ys he v G1 H1 x2 a2 rv
  · obtain ⟨x2, a2⟩ := at'.rmut hx fl x s rd
    have e0 : ds.set i (.rdr true p q dx C (code a) (fed a)) = ds := List.ext_getElem? fun k => by
      by_cases hk : i = k
      · subst hk; rw [List.getElem?_set_self (List.getElem?_eq_some_iff.mp hx).1, hx]
      · rw [List.getElem?_set_ne hk]
    rw [e0] at a2
    exact h2 C' he G1 H1 x2 a2
end
end Dl

/-! Dra: methods of a reader: their calls, len, its making. -/
namespace Dl
open PySem L2 Evl PySem.Spec PyProof.Rows
section
variable {X : Cx} {CX : CXT} {k : Nat} {C : Addr} {x m : Str} {ps : List Str} {sp : Sp} {E : XK} {p pos apos : Pos} {e o : Expr} {es : List Expr} {t : TA} {ta : TE}
theorem pe_callMH0 {pl : Sem Bool} (ho : PE X o ta) (c : Cls X.K C) (h : OkM X.prog X.w X.K X.mg X.base CX k C m ps sp) (hr : Room k X.A) (hx : Passes CX X E)
    (ht : eval (.Call (.Attribute o m apos) [] [] pos) X.env = (do
      let ov ← eval o X.env
      standAt apos.atName
      let (f, first) ← holding [ov] (getMethod ov m pl)
      callWith pos f first (backTo pos (starEach [] X.env)) (backToKw pos (keywordEach [] X.env))) := by rfl) : PE X (.Call (.Attribute o m apos) [] [] pos) (tMeth C m sp [] E ta tNil) := by
  obtain ⟨f, fd, G, hm, b⟩ := h.ex
  exact pe_meth0 ho c hm G hr b .nil hx ht
/-- .. within a try -/
def tMethT (C : Addr) (m : Str) (sp : Sp) (E : L2.St → XK) (ta : TE) (t : TA) : TE := fun σ H Q => tMeth C m sp [] (E σ) ta t σ H Q
theorem pe_callMHT {E : L2.St → XK} {pl : Sem Bool} (ho : PE X o ta) (c : Cls X.K C) (h : OkM X.prog X.w X.K X.mg X.base CX k C m ps sp) (hr : Room k X.A) (hx : ∀ σ, PassesAt CX X σ (E σ)) (ha : PA X (e :: es) t)
    (hst : starEach (e :: es) X.env = (false, eval e X.env) :: starEach es X.env := by rfl) (hpl : (backTo pos (starEach es X.env)).any (·.1) = false := by rfl)
    (ht : eval (.Call (.Attribute o m apos) (e :: es) [] pos) X.env = (do
      let ov ← eval o X.env
      standAt apos.atName
      let (f, first) ← holding [ov] (getMethod ov m pl)
      callWith pos f first (backTo pos (starEach (e :: es) X.env)) (backToKw pos (keywordEach [] X.env))) := by rfl) : PE X (.Call (.Attribute o m apos) (e :: es) [] pos) (tMethT C m sp E ta t) := by
  obtain ⟨f, fd, F, hm, b⟩ := h.ex
  refine ⟨fun pins s σ H Q I h => ?_⟩
  refine PySem.W.methodCall_KW (pl := pl) (thn (ho.run pins s σ H _ I h) fun u s1 ⟨x, H1, I1, rx, a, dx, fs, ex, ea, l, q⟩ => ?_) ht
  subst ex
  obtain rfl : u = Value.ref a := rx
  refine getmeth_ok I1 ea c hm l ?_
  refine PySem.W.callWith_K (first := [.ref a]) (h₀ := X.base) I.ok.mod.kin hm.kp (thn (ha.run pos pins s1 σ H1 _ I1 q) fun us s2 ⟨vs, H2, I2, r, q2⟩ => ⟨I2.kIn, ?_⟩) hst hpl
  exact run_fnS (E := E) (us := .ref a :: us) (vs := .ref a :: vs) F hr b (hx σ) I2 (.cons rfl r) (by dsimp only at q2; rw [List.append_nil] at q2; exact q2)
theorem pe_callMHT0 {E : L2.St → XK} {pl : Sem Bool} (ho : PE X o ta) (c : Cls X.K C) (h : OkM X.prog X.w X.K X.mg X.base CX k C m ps sp) (hr : Room k X.A) (hx : ∀ σ, PassesAt CX X σ (E σ))
    (ht : eval (.Call (.Attribute o m apos) [] [] pos) X.env = (do
      let ov ← eval o X.env
      standAt apos.atName
      let (f, first) ← holding [ov] (getMethod ov m pl)
      callWith pos f first (backTo pos (starEach [] X.env)) (backToKw pos (keywordEach [] X.env))) := by rfl) : PE X (.Call (.Attribute o m apos) [] [] pos) (tMethT C m sp E ta tNil) := by
  obtain ⟨f, fd, F, hm, b⟩ := h.ex
  refine ⟨fun pins s σ H Q I h => ?_⟩
  refine PySem.W.methodCall_KW (pl := pl) (thn (ho.run pins s σ H _ I h) fun u s1 ⟨x, H1, I1, rx, a, dx, fs, ex, ea, l, q⟩ => ?_) ht
  subst ex
  obtain rfl : u = Value.ref a := rx
  refine getmeth_ok I1 ea c hm l ?_
  exact PySem.W.callWith_K0 (first := [.ref a]) I1.kIn hm.kp (run_fnS (E := E) (us := [.ref a]) (vs := [.ref a]) F hr b (hx σ) I1 (.cons rfl .nil) q)
/-- len(x) by an own __len__ -/
def rLenO (C : Addr) (sp : Sp) (E : XK) : List V → Hp → VK → Prop := fun xs H Q => ∃ a dx fs, xs = [.ref a] ∧ H a = some (.ins C dx fs) ∧ sp [.ref a] H (fun v H' => (∃ n : Nat, v = .int (n : Nat) ∧ n ≤ 1000000) ∧ Q v H') E
theorem k_lenO (h : OkM X.prog X.w X.K X.mg X.base CX k C "__len__" ps sp) (hr : Room (k + 1) X.A) (hx : Passes CX X E) : CallR X (.builtin "len") (rLenO C sp E) := by
  obtain ⟨f, fd, F, m, hb⟩ := h.ex
  intro pins s σ H xs us Q I r d
  obtain ⟨a, dx, fs, rfl, ha, hsp⟩ := d
  obtain ⟨u, rfl, rx⟩ := vals1 r
  cases (show u = Value.ref a from rx)
  obtain ⟨mA, J, _⟩ := ins_get I.hok ha
  obtain ⟨od, J, _⟩ := J.look
  obtain ⟨mm, hF⟩ := I.fr
  refine PySem.W.len_K hF I.ok.mod.kin J m.at_ m.fn ?_
  have hl := F.len _ _ _ _ hsp
  have r2 : Vals [V.ref a] [Value.ref a] := .cons rfl .nil
  have e0 : Env0 X.prog X.w X.K X.mg X.base X.A.in1 X.stack s H := by
    have e := I.env0
    exact ⟨e.frames, e.mod, e.bs, e.bsz, e.funs, e.frf, e.hok, e.bare⟩
  refine wpAny_call (codeAny_mono (F.run X.A.in1 X.stack s H ⟨[.ref a], []⟩ [.ref a] [.ref a] _ E hr.in1 e0 (by
    have := hb s [.ref a] I.kIn (by simpa using hl)
    simpa using this) r2 hsp) fun r s' hq => ?_)
  cases r with
  | error e => exact hx pins σ H s e s' I hq
  | ok fl =>
    cases fl with
    | ret w =>
      obtain ⟨z, H', I', rz, ⟨n, ez, hn⟩, q⟩ := I.after hq
      subst ez
      obtain ⟨t, rfl⟩ : ∃ t, w = Value.int (n : Nat) t := rz
      exact ⟨⟨by omega, by omega⟩, .int (n : Nat), H', I'.tok _, ⟨_, rfl⟩, q⟩
    | next => exact False.elim hq
    | brk => exact False.elim hq
    | cont => exact False.elim hq
end
section
variable {α : Type} {code : α → D} {fed : α → List D} {pre : α → Prop} {args : α → List D} {c : Ctx} {ds : Fm} {n : DE} {te : TE} {ta : TA} {a : α} {xs ys zs : List D} {d e : D} {i j : Nat} {w : Bool} {p q dx C : Addr} {m : Str}
theorem ee_lenO {res : α → D} {E : XK} {k : Nat} (hx : ds[i]? = some (.rdr w p q dx C d xs)) (hd : d = code a) (hf : xs = fed a) (hp : pre a) (hr : res a = .int (k : Nat)) (hk : k ≤ 1000000) : Ee c (tCB (rLenO C (spM c.K C code fed pre res) E) (tCons (tVar i) tNil)) ds (.int (k : Nat)) := fun G H σ at' Q q' => by
  subst hd hf
  obtain ⟨s1, rd⟩ := rd_at at' hx
  obtain ⟨u, vs, k1, k2, k3, k4, k5, k6⟩ := id rd
  refine ⟨_, s1, p, dx, _, rfl, k3, G, a, p, q, dx, at'.sub, rfl, hp, rd, fun u G2 H2 e2 s2 r2 => ?_⟩
  rw [hr] at r2
  refine ⟨?_, q' u G2 H2 e2.all s2 r2⟩
  cases r2
  exact ⟨k, rfl, hk⟩
/-- r.m(..), a statement -/
theorem st_wdrop {res : α → Wr} (hx : ds[i]? = some (.rdr true p q dx C d xs)) (h : Ea c ta ds zs) (hz : zs = args a) (hd : d = code a) (hf : xs = fed a) (hp : pre a)
    (h1 : ∀ e ys, res a = .ok e ys → n.nx (ds.set i (.rdr true p q dx C d ys))) (h2 : ∀ C', res a = .err C' → n.er (.ref C') none) (m1 : (m == "code") = false := by decide) (m2 : (m == "fed") = false := by decide) (fl : (ds.set i .no).all flatS = true := by rfl) :
    St c (tDrop (tMeth C m (spW c.K C args code fed pre res) [] c.X (tVar i) ta)) n ds := fun G H σ at' E l => by
  subst hz
  obtain ⟨s1, rd⟩ := rd_at at' hx
  obtain ⟨u, vs, k1, k2, k3, k4, k5, k6⟩ := id rd
  unfold tDrop tMeth
  refine ⟨_, s1, p, dx, _, rfl, k3, by simp only [List.lookup, m1, m2], h G H σ at' _ fun vs G1 H1 e1 s1 r1 => ?_⟩
  rw [List.append_nil]
  exact w_run (at'.go e1 s1) hx r1 hd hf hp fl (fun e ys he v G2 H2 x a2 rv => l.nx G2 H2 σ _ (e1.s.trans x) a2 (h1 e ys he)) (fun C' he G2 H2 x a2 => l.er G2 H2 (.ref C') none (e1.s.trans x) a2.sub (h2 C' he))
/-- .. within a try of several clauses -/
theorem many_run {K : PySem.W.Frag} {Wout : WX} {D : Ends} {σ : L2.St} {H : Hp} {cls : Value} {ts : Addr → Value → Option Addr → TS} : ∀ {l : List (Value × (Addr → Value → Option Addr → TS))} {j : Nat} {cv : Value},
    l[j]? = some (cv, ts) → (∀ k cv' ts', k < j → l[k]? = some (cv', ts') → PySem.W.exmOne K cls cv' = some false) → PySem.W.exmOne K cls cv = some true → (∀ a, H a = none → ts a cls none D σ H) → wMany K Wout D l cls none σ H
  | [], j, cv, h, _, _, _ => by simp at h
  | (c0, t0) :: r, 0, cv, h, _, h2, h3 => by
    simp at h
    obtain ⟨rfl, rfl⟩ := h
    exact ⟨true, h2, fun _ => h3, fun z => nomatch z⟩
  | (c0, t0) :: r, j + 1, cv, h, h1, h2, h3 => by
    refine ⟨false, h1 0 c0 t0 (Nat.succ_pos _) rfl, fun z => (nomatch z), fun _ => many_run (j := j) (by simpa using h) (fun k cv' ts' hk hh => h1 (k + 1) cv' ts' (by omega) (by simpa using hh)) h2 h3⟩
theorem st_wdropT {res : α → Wr} {Wout : WX} {hl : List (Value × (Addr → Value → Option Addr → TS))} (hx : ds[i]? = some (.rdr true p q dx C d xs)) (h : Ea c ta ds zs) (hz : zs = args a) (hd : d = code a) (hf : xs = fed a) (hp : pre a)
    (h1 : ∀ e ys, res a = .ok e ys → n.nx (ds.set i (.rdr true p q dx C d ys)))
    (h2 : ∀ C', res a = .err C' → ∃ (j : Nat) (cv : Value) (ts : Addr → Value → Option Addr → TS), hl[j]? = some (cv, ts) ∧ (∀ k cv' ts', k < j → hl[k]? = some (cv', ts') → PySem.W.exmOne c.K (.ref C') cv' = some false) ∧ PySem.W.exmOne c.K (.ref C') cv = some true ∧ ∀ p, St c (ts p (.ref C') none) n ds)
    (m1 : (m == "code") = false := by decide) (m2 : (m == "fed") = false := by decide) (fl : (ds.set i .no).all flatS = true := by rfl) :
    St c (fun D σ H => tDrop (tMethT C m (spW c.K C args code fed pre res) (WE (wMany c.K Wout D hl)) (tVar i) ta) D σ H) n ds := fun G H σ at' E l => by
  subst hz
  obtain ⟨s1, rd⟩ := rd_at at' hx
  obtain ⟨u, vs, k1, k2, k3, k4, k5, k6⟩ := id rd
  unfold tDrop tMethT tMeth
  refine ⟨_, s1, p, dx, _, rfl, k3, by simp only [List.lookup, m1, m2], h G H σ at' _ fun vs G1 H1 e1 s1 r1 => ?_⟩
  rw [List.append_nil]
  refine w_run (at'.go e1 s1) hx r1 hd hf hp fl (fun e ys he v G2 H2 x a2 rv => l.nx G2 H2 σ _ (e1.s.trans x) a2 (h1 e ys he)) (fun C' he G2 H2 x a2 => ?_)
  obtain ⟨j, cv, ts, g1, g2, g3, g4⟩ := h2 C' he
  exact many_run g1 g2 g3 fun p _ => g4 p G2 H2 σ a2 E (l.go (e1.s.trans x))
theorem st_wasgT {res : α → Wr} {Wout : WX} {hl : List (Value × (Addr → Value → Option Addr → TS))} (hx : ds[i]? = some (.rdr true p q dx C d xs)) (h : Ea c ta ds zs) (hz : zs = args a) (hd : d = code a) (hf : xs = fed a) (hp : pre a) (hj : j < ds.length)
    (h1 : ∀ e ys, res a = .ok e ys → n.nx ((ds.set i (.rdr true p q dx C d ys)).set j (.v e)))
    (h2 : ∀ C', res a = .err C' → ∃ (j : Nat) (cv : Value) (ts : Addr → Value → Option Addr → TS), hl[j]? = some (cv, ts) ∧ (∀ k cv' ts', k < j → hl[k]? = some (cv', ts') → PySem.W.exmOne c.K (.ref C') cv' = some false) ∧ PySem.W.exmOne c.K (.ref C') cv = some true ∧ ∀ p, St c (ts p (.ref C') none) n ds)
    (m1 : (m == "code") = false := by decide) (m2 : (m == "fed") = false := by decide) (fl : (ds.set i .no).all flatS = true := by rfl) :
    St c (fun D σ H => tAsg (tMethT C m (spW c.K C args code fed pre res) (WE (wMany c.K Wout D hl)) (tVar i) ta) (gName j) D σ H) n ds := fun G H σ at' E l => by
  subst hz
  obtain ⟨s1, rd⟩ := rd_at at' hx
  obtain ⟨u, vs, k1, k2, k3, k4, k5, k6⟩ := id rd
  unfold tAsg tMethT tMeth
  refine ⟨_, s1, p, dx, _, rfl, k3, by simp only [List.lookup, m1, m2], h G H σ at' _ fun vs G1 H1 e1 s1 r1 => ?_⟩
  rw [List.append_nil]
  refine w_run (at'.go e1 s1) hx r1 hd hf hp fl (fun e ys he v G2 H2 x a2 rv => l.nx G2 H2 _ _ (e1.s.trans x) (a2.set rv (by rw [List.length_set]; exact hj)) (h1 e ys he)) (fun C' he G2 H2 x a2 => ?_)
  obtain ⟨j, cv, ts, g1, g2, g3, g4⟩ := h2 C' he
  exact many_run g1 g2 g3 fun p _ => g4 p G2 H2 σ a2 E (l.go (e1.s.trans x))
theorem st_ifT {tc : TT} {t1 t2 : Ends → TS} {b : Bool} (h : Et c tc ds b) (h1 : b = true → St c (fun D σ H => t1 D D σ H) n ds) (h2 : b = false → St c (fun D σ H => t2 D D σ H) n ds) : St c (fun D σ H => tIfS tc (t1 D) (t2 D) D σ H) n ds := fun G H σ a E l => h G H σ a _ fun G1 H1 e1 s1 => by
  cases b with
  | true => exact h1 rfl G1 H1 σ (a.go e1 s1) E (l.go e1.s)
  | false => exact h2 rfl G1 H1 σ (a.go e1 s1) E (l.go e1.s)
/-- if not like(f(r, x), y): .. -/
theorem st_ifnot_w {β : Type} {res : α → Wr} {args2 : β → List D} {pre2 : β → Prop} {res2 : β → Res} {E1 E2 : XK} {tb : TE} {y : D} {t1 t2 : TS} {v : D} {b : Bool} {a2 : β} (hx : ds[i]? = some (.rdr true p q dx C d xs)) (h : Ea c ta ds zs) (hz : zs = args a) (hd : d = code a) (hf : xs = fed a) (hp : pre a)
    (hr : res a = .ok v ys) (h2 : Ee c tb (ds.set i (.rdr true p q dx C d ys)) y) (hz2 : [v, y] = args2 a2) (hp2 : pre2 a2) (hr2 : res2 a2 = .ok (.bl b))
    (k1 : b = false → St c t1 n (ds.set i (.rdr true p q dx C d ys))) (k2 : b = true → St c t2 n (ds.set i (.rdr true p q dx C d ys))) (fl : (ds.set i .no).all flatS = true := by rfl) :
    St c (tIfS (tNot (tTruG c.K (tCall (spA c.K args2 pre2 res2) [] E2 (tCons (tCall (spW c.K C args code fed pre res) [] E1 (tCons (tVar i) ta)) (tCons tb tNil))))) t1 t2) n ds := fun G H σ at' E l => by
  subst hz
  obtain ⟨s1, rd⟩ := rd_at at' hx
  unfold tIfS tNot tTruG tCall tCons
  refine ⟨_, s1, h G H σ at' _ fun vs G1 H1 e1 s1 r1 => ?_⟩
  dsimp only
  rw [List.append_nil]
  refine w_run (at'.go e1 s1) hx r1 hd hf hp fl (fun e ys' he w G2 H2 x a3 rv => ?_) (fun C' he G2 H2 x a2 => by rw [hr] at he; cases he)
  rw [hr] at he; cases he
  refine h2 G2 H2 σ a3 _ fun u G3 H3 e3 s3 r3 => ?_
  refine ⟨G3, a2, s3, by rw [← hz2]; exact .cons (rv.mono e3.g) (.cons r3 .nil), hp2, fun d' hd' => ?_, fun C o z => by rw [hr2] at z; cases z⟩
  rw [hr2] at hd'; cases hd'
  intro z G4 H4 e4 s4 r4
  cases r4
  refine ⟨b, rfl, ?_⟩
  have ex : Exs c G H G4 H4 := ((e1.s.trans x).trans e3.s).trans (Ext.all e4).s
  have a4 := (a3.go e3 s3).go e4.all s4
  cases b with
  | true => exact k2 rfl G4 H4 σ a4 E (l.go ex)
  | false => exact k1 rfl G4 H4 σ a4 E (l.go ex)
/-- what is held is known from now on -/
theorem st_frzR {t : TS} (hx : ds[i]? = some (.rdr true p q dx C d xs)) (k : St c t n (ds.set i (.v (.obj C ["code", "fed"] [d, .lst xs])))) (hM : ∀ b, ¬ c.M b) (fl : (ds.set i .no).all flatS = true := by rfl) : St c t n ds := fun G H σ a E l => by
  obtain ⟨h1, rd0, nlp, nlq, nip, niq, pw⟩ := a.fr.ok i _ hx
  have npq := rd0.ne
  obtain ⟨u, vs, k1, k2, k3, k4, k5, k6⟩ := id rd0
  have hi : i < ds.length := (List.getElem?_eq_some_iff.mp hx).1
  have wp : ¬ c.W p := fun z => hM _ ((pw rfl).1 z)
  have wq : ¬ c.W q := fun z => hM _ ((pw rfl).2 z)
  have g1 : Ex G (upd G q (.lst vs)) := Ex.new k2
  have k1' : (upd G q (.lst vs)) p = none := by rw [upd_ne npq]; exact k1
  have g2 : Ex (upd G q (.lst vs)) (upd (upd G q (.lst vs)) p (.ins C dx [("code", u), ("fed", .ref q)])) := Ex.new k1'
  have gx := g1.trans g2
  have sub : Ex (upd (upd G q (.lst vs)) p (.ins C dx [("code", u), ("fed", .ref q)])) H := fun b o e => by
    by_cases hb : b = p
    · subst hb; rw [upd_same] at e; rw [k3]; exact e
    · rw [upd_ne hb] at e
      by_cases hb2 : b = q
      · subst hb2; rw [upd_same] at e; rw [k4]; exact e
      · rw [upd_ne hb2] at e; exact a.sub b o e
  have nn : ∀ b, b ≠ p → b ≠ q → G b = none → (upd (upd G q (.lst vs)) p (.ins C dx [("code", u), ("fed", .ref q)])) b = none := fun b h1 h2 g => by rw [upd_ne h1, upd_ne h2]; exact g
  refine k _ H σ ⟨sub, ⟨by rw [List.length_set]; exact a.fr.len, fun j s hs => ?_, fun j j' b xs' ys' hjj hj hj' e2 e3 => ?_⟩, fun b y hb => ⟨(a.lk b y hb).1, nn b (fun z => nlp y (by rw [← z]; exact hb)) (fun z => nlq y (by rw [← z]; exact hb)) (a.lk b y hb).2.1, (a.lk b y hb).2.2⟩, a.tr⟩ E (l.go ⟨gx, fun _ _ _ _ _ q => q, fun b w _ g => nn b (fun z => wp (by rw [← z]; exact w)) (fun z => wq (by rw [← z]; exact w)) g, fun _ q => q, fun _ _ _ q => q⟩)
  · by_cases hj : i = j
    · subst hj
      rw [List.getElem?_set_self hi] at hs
      cases hs
      exact ⟨.ref p, h1, .obj upd_same rfl (.cons (k5.mono gx) (.cons (.lst (g2 _ _ upd_same) (k6.mono gx)) .nil))⟩
    · rw [List.getElem?_set_ne hj] at hs
      have o := a.fr.ok j s hs
      have f := List.all_eq_true.mp fl s (List.mem_of_getElem? (by rw [List.getElem?_set_ne hj]; exact hs))
      cases s with
      | no => trivial
      | v d => obtain ⟨u, o1, o2⟩ := o; exact ⟨u, o1, o2.mono gx⟩
      | drw =>
        obtain ⟨b, y, o1, o2, o3, o4⟩ := o
        exact ⟨b, y, o1, o2, nn b (fun z => nlp y (by rw [← z]; exact o1)) (fun z => nlq y (by rw [← z]; exact o1)) o3, o4⟩
      | own _ => cases f
      | self _ _ _ _ _ => cases f
      | rdr _ _ _ _ _ _ _ => cases f
  · have nj : i ≠ j := fun z => by subst z; rw [List.getElem?_set_self hi] at hj; cases hj
    rw [List.getElem?_set_ne nj] at hj
    have f := List.all_eq_true.mp fl _ (List.mem_of_getElem? (i := j) (by rw [List.getElem?_set_ne nj]; exact hj))
    cases f
end
/-! ### making a reader -/
def spN {α : Type} (K : PySem.W.Frag) (C : Addr) (code : α → D) (pre : α → Prop) (err : α → Option Addr) : Sp := fun vs H Q E => ∃ G a p dx us, Ex G H ∧ vs = .ref p :: us ∧ Reps K G us [code a] ∧ pre a ∧ G p = none ∧ H p = some (.ins C dx []) ∧
  (err a = none → ∀ G1 H1 q, Exs ⟨K, none, E, fun b => H b ≠ none, fun b => b = p⟩ G H G1 H1 → Ex G1 H1 → H q = none → RdH K G1 H1 p q dx C (code a) [] → Q .non H1) ∧
  ∀ C', err a = some C' → ∀ G1 H1, Exs ⟨K, none, E, fun b => H b ≠ none, fun b => b = p⟩ G H G1 H1 → Ex G1 H1 → E (.ref C') none H1
theorem spN_len {α : Type} {K : PySem.W.Frag} {C : Addr} {code : α → D} {pre : α → Prop} {err : α → Option Addr} : ∀ vs H Q E, spN K C code pre err vs H Q E → vs.length = 2 := fun vs H Q E h => by
  obtain ⟨G, a, p, dx, us, _, e, r, _⟩ := h
  rw [e, List.length_cons, r.len]; rfl
theorem go_n {α : Type} {K : PySem.W.Frag} {C : Addr} {code : α → D} {pre : α → Prop} {err : α → Option Addr} {N : List Str} {t : TS} {vs : List V} {H : Hp} {Q : VK} {E : XK} (h : spN K C code pre err vs H Q E)
    (k : ∀ (a : α) (W M : Addr → Prop) (p dx : Addr), pre a → St ⟨K, none, E, W, M⟩ t { nx := fun ds => err a = none ∧ ∃ q, ds[0]? = some (.rdr true p q dx C (code a) []), rt := fun _ => False, er := fun C' o => ∃ D', C' = .ref D' ∧ o = none ∧ err a = some D' } (.self p dx C [] [] :: (([code a] : List D).map Sl.v ++ List.replicate (N.length - 1 - ([code a] : List D).length) Sl.no))) (hN : 0 < N.length) :
    t { nx := fun _ H' => Q .non H', rt := Q } (L2.start N vs) H := by
  obtain ⟨G, a, p, dx, us, s, rfl, r, hp, gp, h0, h1, h2⟩ := h
  refine k a (fun b => H b ≠ none) (fun b => b = p) p dx hp G H _ ⟨s, rd_slots hN s r ⟨[], rfl, gp, h0, rfl, .nil, fun _ z => (nomatch z), rfl⟩ (fun _ z => (nomatch z)), fun b _ z => (nomatch z), fun b z => z⟩ _ ⟨fun G' H' σ ds x a' z => ?_, fun _ _ _ _ _ _ _ z => z.elim, fun _ _ _ _ _ _ z => z.elim, fun _ _ _ _ _ _ z => z.elim, fun G' H' C o x s' z => ?_, fun _ _ _ _ _ _ _ _ _ z => z.elim, fun _ _ _ _ _ _ _ z => z.elim⟩
  · obtain ⟨e1, q, e2⟩ := z
    obtain ⟨o1, rd, _, _, _, _, pw⟩ := a'.fr.ok 0 _ e2
    refine h1 e1 G' H' q x a'.sub ?_ rd
    by_cases hq : H q = none
    · exact hq
    · exact absurd ((pw rfl).2 hq).symm rd.ne
  · obtain ⟨D', rfl, rfl, e⟩ := z
    exact h2 D' e G' H' x s'
section
variable {α : Type} {code : α → D} {pre : α → Prop} {err : α → Option Addr} {c : Ctx} {ds : Fm} {n : DE} {ta : TA} {a : α} {xs zs : List D} {d : D} {i : Nat} {p dx C : Addr}
/-- self.fed = [] -/
theorem st_putL (hx : ds[i]? = some (.self p dx C ["code"] [d])) (hc : Cls c.K C) (hn : NoAttr c.K C "fed") (k : ∀ q, n.nx (ds.set i (.rdr true p q dx C d []))) (hl : c.l = none) (fl : (ds.set i .no).all flatS = true := by rfl) : St c (sFld c.K (tVar i) (tLst tNil) "fed") n ds := fun G H σ a E l => by
  obtain ⟨fs, h1, h2, h3, h4, h5, h6, h7⟩ := a.fr.ok i _ hx
  have hi : i < ds.length := (List.getElem?_eq_some_iff.mp hx).1
  obtain ⟨u, rfl⟩ : ∃ u, fs = [(("code" : Str), u)] := by
    cases fs with
    | nil => cases h4
    | cons f fs => cases fs with
      | nil => obtain ⟨f1, f2⟩ := f; simp at h4; exact ⟨f2, by rw [h4]⟩
      | cons _ _ => simp at h4
  have ru : Rep c.K G u d := by cases h5 with | cons r _ => exact r
  unfold sFld
  refine ⟨by decide, fun q hq => ?_⟩
  have npq : p ≠ q := fun z => by rw [z, hq] at h3; cases h3
  have hg : G q = none := sub_none a.sub hq
  refine ⟨_, h1, p, C, dx, [(("code" : Str), u)], rfl, by rw [upd_ne npq]; exact h3, hc, hn, by simp, ?_⟩
  rw [putF_new (by simp; decide)]
  obtain ⟨H2, hH2⟩ : ∃ H2, H2 = upd (upd H q (.lst [])) p (.ins C dx ([(("code" : Str), u)] ++ [(("fed" : Str), V.ref q)])) := ⟨_, rfl⟩
  rw [← hH2]
  have keep : ∀ b o, b ≠ p → H b = some o → H2 b = some o := fun b o hp h => by rw [hH2, upd_ne hp, upd_ne (ne_of_none h hq)]; exact h
  have ht : ∀ b, H b ≠ none → H2 b ≠ none := fun b h => by
    by_cases hb : b = p
    · subst hb; rw [hH2, upd_same]; simp
    · cases h' : H b with
      | none => exact absurd h' h
      | some o => rw [keep b o hb h']; simp
  have ex : Exs c G H G H2 := ⟨Ex.refl _, fun b o w m _ h => keep b o (fun z => m (by rw [z]; exact h7)) h, fun b _ _ g => g, ht, fun b y hb => (by rw [hl] at hb; cases hb)⟩
  have rd : RdH c.K G H2 p q dx C d [] := ⟨u, [], h2, hg, by rw [hH2, upd_same]; rfl, by rw [hH2, upd_ne (Ne.symm npq), upd_same], ru, .nil⟩
  refine l.nx G H2 σ _ ex ⟨fun b o e => keep b o (fun z => by rw [z, h2] at e; cases e) (a.sub b o e), ⟨by rw [List.length_set]; exact a.fr.len, fun j s hs => ?_, fun j j' b xs' ys' hjj hj hj' e2 e3 => ?_⟩, fun b y hb => (by rw [hl] at hb; cases hb), fun b w => ht b (a.tr b w)⟩ (k q)
  · by_cases hj : i = j
    · subst hj
      rw [List.getElem?_set_self hi] at hs
      cases hs
      refine ⟨h1, rd, ?_, ?_, ?_, ?_, fun _ => ⟨fun _ => h7, fun w => absurd hq (a.tr q w)⟩⟩ <;> (rw [hl]; exact fun _ z => (nomatch z))
    · rw [List.getElem?_set_ne hj] at hs
      have o := a.fr.ok j s hs
      have f := List.all_eq_true.mp fl s (List.mem_of_getElem? (by rw [List.getElem?_set_ne hj]; exact hs))
      cases s with
      | no => trivial
      | v d => exact o
      | drw => obtain ⟨b, y, o1, _⟩ := o; rw [hl] at o1; cases o1
      | own _ => cases f
      | self _ _ _ _ _ => cases f
      | rdr _ _ _ _ _ _ _ => cases f
  · have nj : i ≠ j := fun z => by subst z; rw [List.getElem?_set_self hi] at hj; cases hj
    rw [List.getElem?_set_ne nj] at hj
    have f := List.all_eq_true.mp fl _ (List.mem_of_getElem? (i := j) (by rw [List.getElem?_set_ne nj]; exact hj))
    cases f
/-- C(code): what comes out -/
theorem new_run {G1 H1 : Hp} {σ : L2.St} {E : XK} {Q : VK} {vs : List V} (a1 : At c G1 H1 σ ds) (r1 : Reps c.K G1 vs [code a]) (hp : pre a)
    (h1 : err a = none → ∀ x q dx G2 H2, Ext c.l G1 H1 G2 H2 → Ex G2 H2 → H1 x = none → H1 q = none → RdH c.K G2 H2 x q dx C (code a) [] → Q (.ref x) H2)
    (h2 : ∀ C', err a = some C' → ∀ G2 H2, Ext c.l G1 H1 G2 H2 → Ex G2 H2 → E (.ref C') none H2) :
    ∀ x dx, H1 x = none → H1 dx = none → dx ≠ x → spN c.K C code pre err (.ref x :: (vs ++ [])) (upd (upd H1 dx (.own x)) x (.ins C dx [])) (fun v H2 => v = .non ∧ Q (.ref x) H2) E := fun x dx nx nd ne => by
  rw [List.append_nil]
  have s1 := a1.sub
  have gx : G1 x = none := sub_none s1 nx
  have h12 : ∀ b o, H1 b = some o → (upd (upd H1 dx (.own x)) x (.ins C dx [])) b = some o := fun b o e => by rw [upd_ne (ne_of_none e nx), upd_ne (ne_of_none e nd)]; exact e
  have sub : Ex G1 (upd (upd H1 dx (.own x)) x (.ins C dx [])) := fun b o e => h12 b o (s1 b o e)
  have up : ∀ {G2 H2}, Exs ⟨c.K, none, E, fun b => (upd (upd H1 dx (.own x)) x (.ins C dx [])) b ≠ none, fun b => b = x⟩ G1 (upd (upd H1 dx (.own x)) x (.ins C dx [])) G2 H2 → Ext none G1 H1 G2 H2 := fun e => by
    refine ⟨e.g, fun b o _ q => ?_, fun b q z => ?_, fun b q => ?_, fun b _ z => (nomatch z)⟩
    · exact e.h b o (by show _ ≠ none; rw [h12 b o q]; simp) (fun z => (ne_of_none q nx) z) (fun _ z => nomatch z) (h12 b o q)
    · have w : (upd (upd H1 dx (.own x)) x (.ins C dx [])) b ≠ none := by
        cases q' : H1 b with
        | none => exact absurd q' q
        | some o => rw [h12 b o q']; simp
      exact e.n b w w z
    · cases q' : H1 b with
      | none => exact absurd q' q
      | some o => exact e.t b (by rw [h12 b o q']; simp)
  refine ⟨G1, a, x, dx, vs, sub, rfl, r1, hp, gx, upd_same, fun hr G2 H2 q e2 s2 hq rd => ⟨rfl, ?_⟩, fun C' hr G2 H2 e2 s2 => h2 C' hr G2 H2 (up e2).all s2⟩
  refine h1 hr x q dx G2 H2 (up e2).all s2 nx ?_ rd
  cases q' : H1 q with
  | none => rfl
  | some o => rw [h12 q o q'] at hq; cases hq
theorem At.rset {G1 H1 G2 H2 : Hp} {σ : L2.St} {x q : Addr} (a1 : At c G1 H1 σ ds) (e : Ext c.l G1 H1 G2 H2) (s : Ex G2 H2) (nx : H1 x = none) (nq : H1 q = none) (rd : RdH c.K G2 H2 x q dx C d xs) (hi : i < ds.length) : At c G2 H2 (σ.set i (some (.ref x))) (ds.set i (.rdr true x q dx C d xs)) := by
  have a2 := a1.go e s
  refine ⟨a2.sub, ⟨by simp [a2.fr.len], fun j s' hs => ?_, fun j k b xs' ys' hjk hj hk e1 e2 => ?_⟩, a2.lk, a2.tr⟩
  · by_cases hj : i = j
    · subst hj
      rw [List.getElem?_set_self hi] at hs
      cases hs
      rw [List.getElem?_set_self (by rw [a2.fr.len]; exact hi)]
      exact ⟨rfl, rd, fun y z => (a1.lk x y z).1 nx, fun y z => (a1.lk q y z).1 nq, fun b z => (a1.lk b x z).2.2 nx, fun b z => (a1.lk b q z).2.2 nq, fun _ => ⟨fun w => absurd nx (a1.tr x w), fun w => absurd nq (a1.tr q w)⟩⟩
    · rw [List.getElem?_set_ne hj] at hs ⊢
      exact a2.fr.ok j s' hs
  · have nj : i ≠ j := fun z => by subst z; rw [List.getElem?_set_self hi] at hj; cases hj
    have nk : i ≠ k := fun z => by subst z; rw [List.getElem?_set_self hi] at hk; cases hk
    rw [List.getElem?_set_ne nj] at hj e1
    rw [List.getElem?_set_ne nk] at hk e2
    exact a2.fr.ap j k b xs' ys' hjk hj hk e1 e2
/-- r = C(code) -/
theorem st_asgNew (h : Ea c ta ds zs) (hz : zs = [code a]) (hp : pre a) (hi : i < ds.length) (h1 : err a = none → ∀ x q dx, n.nx (ds.set i (.rdr true x q dx C (code a) []))) (h2 : ∀ C', err a = some C' → n.er (.ref C') none) :
    St c (tAsg (tMake C (spN c.K C code pre err) [] c.X ta) (gName i)) n ds := fun G H σ at' E l => h G H σ at' _ fun vs G1 H1 e1 s1 r1 => by
  subst hz
  have a1 := at'.go e1 s1
  exact new_run (Q := fun v H2 => gName i v σ H2 E.nx) a1 r1 hp (fun hr x q dx G2 H2 e2 s2 nx nq rd => l.nx G2 H2 _ _ (e1.trans e2).s (a1.rset e2 s2 nx nq rd hi) (h1 hr x q dx)) (fun C' hr G2 H2 e2 s2 => l.er G2 H2 (.ref C') none (e1.trans e2).s s2 (h2 C' hr))
/-- C(code), a statement -/
theorem st_new (h : Ea c ta ds zs) (hz : zs = [code a]) (hp : pre a) (h1 : err a = none → n.nx ds) (h2 : ∀ C', err a = some C' → n.er (.ref C') none) :
    St c (tDrop (tMake C (spN c.K C code pre err) [] c.X ta)) n ds := fun G H σ at' E l => h G H σ at' _ fun vs G1 H1 e1 s1 r1 => by
  subst hz
  have a1 := at'.go e1 s1
  exact new_run (Q := fun v H2 => E.nx σ H2) a1 r1 hp (fun hr x q dx G2 H2 e2 s2 nx nq rd => l.nx G2 H2 _ _ (e1.trans e2).s (a1.go e2 s2) (h1 hr)) (fun C' hr G2 H2 e2 s2 => l.er G2 H2 (.ref C') none (e1.trans e2).s s2 (h2 C' hr))
end
end Dl

/-! Drb: an own == against texts; calls where no exception is known. -/
namespace Dl
open PySem L2 Evl PySem.Spec PyProof.Rows
/-- a class, none of whose instances is a text -/
structure NoStr (K : PySem.W.Frag) (C : Addr) : Prop where
  k : PySem.W.kitOne K (.type "str") (.ref C) = some false
  s : PySem.W.subIn K (.type "str") (.ref C) = some false
def rOwnEqS (K : PySem.W.Frag) (C : Addr) (sp : Sp) (E : XK) : R2 := fun x y H Q => ∃ a dx fs, x = .ref a ∧ H a = some (.ins C dx fs) ∧
  ((∃ b dy gs, y = .ref b ∧ H b = some (.ins C dy gs)) ∨ ((∃ s, y = .str s) ∧ PySem.W.subIn K (.type "str") (.ref C) = some false)) ∧ sp [x, y] H (fun v H' => (∃ b, v = .bl b) ∧ Q v H') E
theorem op_ownEqS {X : Cx} {CX : CXT} {k : Nat} {C : Addr} {ps : List Str} {sp : Sp} {E : XK} (h : OkM X.prog X.w X.K X.mg X.base CX k C "__eq__" ps sp) (hr : Room k X.A) (hx : Passes CX X E) : OpR X (compareOp .Eq) (rOwnEqS X.K C sp E) := by
  obtain ⟨f, fd, F, m, hb⟩ := h.ex
  intro pins s σ H x y u v Q I rx ry d
  obtain ⟨a, dx, fs, rfl, ha, ht, hsp⟩ := d
  cases (show u = Value.ref a from rx)
  obtain ⟨mA, J, _⟩ := ins_get I.hok ha
  obtain ⟨od, J, _⟩ := J.look
  obtain ⟨mm, hF⟩ := I.fr
  have fin : wpAny (model X.prog X.w) X.A (call (.ref f) [.ref a, v]) (PySem.W.CmpBack (EP X pins σ Q)) X.xe s := by
    have hl := F.len _ _ _ _ hsp
    have r2 : Vals [V.ref a, y] [Value.ref a, v] := .cons rfl (.cons ry .nil)
    refine wpAny_call (codeAny_mono (F.run X.A X.stack s H ⟨[.ref a, v], []⟩ [.ref a, v] [.ref a, y] _ E hr I.env0 (by
      have := hb s [.ref a, v] I.kIn (by simpa using hl)
      simpa using this) r2 hsp) fun r s' hq => ?_)
    cases r with
    | error e => exact hx pins σ H s e s' I hq
    | ok fl =>
      cases fl with
      | ret w =>
        obtain ⟨z, H', I', rz, ⟨b, ez⟩, q⟩ := I.after hq
        subst ez
        cases rz
        exact ⟨.bl b, H', I', rfl, q⟩
      | next => exact False.elim hq
      | brk => exact False.elim hq
      | cont => exact False.elim hq
  show wpAny (model X.prog X.w) X.A (richCompare .Eq (.ref a) v) (EP X pins σ Q) X.xe s
  rcases ht with ⟨b, dy, gs, rfl, hb'⟩ | ⟨⟨z, rfl⟩, hn⟩
  · cases (show v = Value.ref b from ry)
    obtain ⟨mB, J', _⟩ := ins_get I.hok hb'
    obtain ⟨od', J', _⟩ := J'.look
    exact PySem.W.cmp_K (op := .Eq) (tb := .ref C) hr.units0 hF I.ok.mod.kin J J'.type (by simp [PySem.W.notFirst]) m.at_ m.fn fin
  · obtain ⟨t, rfl⟩ : ∃ t, v = Value.str z t := ry
    exact PySem.W.cmp_K (op := .Eq) (tb := .type "str") hr.units0 hF I.ok.mod.kin J (fun A Q E s k' q => wpAny_pure q) (by unfold PySem.W.notFirst; rw [hn]; simp) m.at_ m.fn fin
theorem k_ownS {X : Cx} (K : PySem.W.Frag) (hK : X.K = K) {CX : CXT} {k : Nat} {C : Addr} {ps : List Str} {sp : Sp} {E : XK} (h : OkM X.prog X.w X.K X.mg X.base CX k C "__eq__" ps sp) (hr : Room k X.A) (hx : Passes CX X E) : OpR X (compareOp .Eq) (rOwnEqS K C sp E) := by subst hK; exact op_ownEqS h hr hx
section
variable {K : PySem.W.Frag} {C : Addr} {ns : List Str} {xs : List D}
theorem rc_isiOwnS {s : Str} (o : NoStr K C) : Rc K (rIsi K) [.str s, .cls C] (.bl false) := fun G H vs sb r Q t => by
  cases r with
  | cons r r' => cases r' with
    | cons r1 r2 =>
      cases r2
      cases r1
      cases r
      exact ⟨_, _, _, _, false, rfl, .own C, .base (.str s), o.k, t.same sb (.bl false)⟩
theorem rb_ownEqS {α : Type} {args : α → List D} {pre : α → Prop} {res : α → Res} {E : XK} {a : α} {y : D} {b : Bool} (hy : (∃ ns ys, y = .obj C ns ys) ∨ ((∃ s, y = .str s) ∧ NoStr K C)) (hx : [.obj C ns xs, y] = args a) (hp : pre a) (hr : res a = .ok (.bl b)) : Rb K (rOwnEqS K C (spA K args pre res) E) (.obj C ns xs) y (.bl b) := fun G H v w s r1 r2 Q t => by
  have go : ∀ v : V, Rep K G v (.obj C ns xs) → spA K args pre res [v, w] H (fun v H' => (∃ b, v = .bl b) ∧ Q v H') E := fun v r1 => ⟨G, a, s, by rw [← hx]; exact .cons r1 (.cons r2 .nil), hp, fun d hd u G1 H1 e1 s1 ru => by
    rw [hr] at hd; cases hd
    cases ru
    exact ⟨⟨b, rfl⟩, t _ G1 H1 e1 s1 (.bl b)⟩, fun C o z => by rw [hr] at z; cases z⟩
  have g := go v r1
  cases r1 with
  | obj e _ _ =>
    refine ⟨_, _, _, rfl, s _ _ e, ?_, g⟩
    rcases hy with ⟨ns', ys, rfl⟩ | ⟨⟨z, rfl⟩, o⟩
    · cases r2 with
      | obj e2 _ _ => exact .inl ⟨_, _, _, rfl, s _ _ e2⟩
    · cases r2
      exact .inr ⟨⟨_, rfl⟩, o.s⟩
end
section
variable {α : Type} {code : α → D} {fed : α → List D} {pre : α → Prop} {args : α → List D} {c : Ctx} {ds : Fm} {n : DE} {te : TE} {ta : TA} {a : α} {xs ys zs : List D} {d e : D} {i j : Nat} {p q dx C : Addr} {m : Str} {E0' : XK} {err : α → Option Addr}
theorem st_wdrop0 {res : α → Wr} (hx : ds[i]? = some (.rdr true p q dx C d xs)) (h : Ea c ta ds zs) (hz : zs = args a) (hd : d = code a) (hf : xs = fed a) (hp : pre a) (hr : res a = .ok e ys)
    (h1 : n.nx (ds.set i (.rdr true p q dx C d ys))) (m1 : (m == "code") = false := by decide) (m2 : (m == "fed") = false := by decide) (fl : (ds.set i .no).all flatS = true := by rfl) :
    St c (tDrop (tMeth C m (spW c.K C args code fed pre res) [] E0' (tVar i) ta)) n ds := fun G H σ at' E l => by
  subst hz
  obtain ⟨s1, rd⟩ := rd_at at' hx
  obtain ⟨u, vs, k1, k2, k3, k4, k5, k6⟩ := id rd
  unfold tDrop tMeth
  refine ⟨_, s1, p, dx, _, rfl, k3, by simp only [List.lookup, m1, m2], h G H σ at' _ fun vs G1 H1 e1 s1 r1 => ?_⟩
  rw [List.append_nil]
  exact w_run (at'.go e1 s1) hx r1 hd hf hp fl (fun e ys he v G2 H2 x a2 rv => by
    rw [hr] at he; cases he
    exact l.nx G2 H2 σ _ (e1.s.trans x) a2 h1) (fun C' he G2 H2 x a2 => by rw [hr] at he; cases he)
theorem st_asgNew0 (h : Ea c ta ds zs) (hz : zs = [code a]) (hp : pre a) (hi : i < ds.length) (hr : err a = none) (h1 : ∀ x q dx, n.nx (ds.set i (.rdr true x q dx C (code a) []))) :
    St c (tAsg (tMake C (spN c.K C code pre err) [] E0' ta) (gName i)) n ds := fun G H σ at' E l => h G H σ at' _ fun vs G1 H1 e1 s1 r1 => by
  subst hz
  have a1 := at'.go e1 s1
  exact new_run (Q := fun v H2 => gName i v σ H2 E.nx) a1 r1 hp (fun hr x q dx G2 H2 e2 s2 nx nq rd => l.nx G2 H2 _ _ (e1.trans e2).s (a1.rset e2 s2 nx nq rd hi) (h1 x q dx)) (fun C' hr' G2 H2 e2 s2 => by rw [hr] at hr'; cases hr')
end
end Dl

/-! Drc: several except clauses, some with a name; the rest of a body that is never reached. -/
namespace Dl
open PySem L2 Evl PySem.Spec PyProof.Rows
/-- statements that are never reached -/
theorem pss_dead {X : Cx} {ss : List Stmt} : PSs X ss (fun _ _ _ => False) := ⟨fun _ _ _ _ _ _ h => h.elim⟩
abbrev Cl := Value × Option Nat × (Addr → Value → Option Addr → TS)
def wManyA (K : PySem.W.Frag) (Wout : WX) (D : Ends) : List Cl → WX
  | [] => Wout
  | (c, oi, ts) :: r => fun cls d σ H => ∃ b, PySem.W.exmOne K cls c = some b ∧ (b = true → ∀ a, H a = none → match oi with
      | none => ts a cls d D σ H
      | some i => ts a cls d { nx := fun σ' H' => D.nx (σ'.set i none) H', rt := D.rt, bk := fun σ' H' => D.bk (σ'.set i none) H', ct := fun σ' H' => D.ct (σ'.set i none) H' } (σ.set i (some (.ref a))) H) ∧ (b = false → wManyA K Wout D r cls d σ H)
inductive HdsA (X : Cx) : List ExceptHandler → List Cl → Prop
  | nil : HdsA X [] []
  | plain {x : Str} {c : Value} {ts : Addr → Value → Option Addr → TS} {b₀ : Stmt} {suite : List Stmt} {np pos' : Pos} {hds : List ExceptHandler} {l : List Cl} (hc : Names X x c)
      (hsu : ∀ (a : Addr) (oe : Obj) (cls : Value) (d : Option Addr) (pn : List (Addr × Obj)), Zc cls d oe → (∃ vs, oe.data = .fields vs) → PSs (X.suite a ((a, oe) :: pn)) (b₀ :: suite) (ts a cls d)) (r : HdsA X hds l) :
      HdsA X (.ExceptHandler (some (.Name x np)) none (b₀ :: suite) pos' :: hds) ((c, none, ts) :: l)
  | named {x n : Str} {i : Nat} {c : Value} {ts : Addr → Value → Option Addr → TS} {b₀ : Stmt} {suite : List Stmt} {np pos' : Pos} {hds : List ExceptHandler} {l : List Cl} (hN : X.N.Nodup) (hi : X.N[i]? = some n) (hln : X.env.kindOf n = some .local) (hc : Names X x c)
      (hsu : ∀ (a : Addr) (oe : Obj) (cls : Value) (d : Option Addr) (pn : List (Addr × Obj)), Zc cls d oe → (∃ vs, oe.data = .fields vs) → PSs (X.suite a ((a, oe) :: pn)) (b₀ :: suite) (ts a cls d)) (r : HdsA X hds l) :
      HdsA X (.ExceptHandler (some (.Name x np)) (some n) (b₀ :: suite) pos' :: hds) ((c, some i, ts) :: l)
section
variable {X : Cx} {body : List Stmt} {h₀ : ExceptHandler} {hds : List ExceptHandler} {l : List Cl} {pos : Pos} {tb : WX → TS} {Wout : WX}
/-- what a suite that was named leaves: its ends, behind the name's going -/
theorem ps_try_clauses (hs : X.stack = X.env :: X.outer) (hf : X.env.frame = some X.env.locals) (tk : Takes X Wout)
    (hb : ∀ (W : WX) (pn : List (Addr × Obj)) (xe : Value → Shared → Prop), Takes (X.tr pn xe) W → PassesOwn (model X.prog X.w) X.A X.env xe → PSs (X.tr pn xe) body (tb W))
    (hh : HdsA X (h₀ :: hds) l) : PS X (.Try body (h₀ :: hds) [] [] pos) (fun D σ H => tb (wManyA X.K Wout D l) D σ H) := by
  refine ⟨fun pins s σ H D I h => wpAny_Try_except ?_⟩
  have ok := I.ok
  have fr0 : X.A.frames = some (X.env :: X.outer) := by rw [ok.frames, hs]
  refine wpAny_mono ((hb (wManyA X.K Wout D l) (X.pn ++ pins) (fun e s₁ => wpAny (model X.prog X.w) X.A (noteFrame e X.env) (fun _ s₂ => wpAny (model X.prog X.w) X.A (setFlight e none) (fun _ s₃ =>
    wpAny (model X.prog X.w) X.A (handleBy e X.env (h₀ :: hds)) (SP X pins D) X.xe s₃) X.xe s₂) X.xe s₁) (fun u s' xx => ?_) PassesOwn.looking).run [] s σ H D (I.toTry _) h) (fun f s1 hsp => ?_) (fun e s1 he => he)
  · obtain ⟨a, B, sI, pins', σ', H', cls, d, rfl, J', nb, up, sky, na, os, ag, wish⟩ := xx
    have J : Inv X pins σ' H' sI := J'.ofTry ok
    show wpAny (model X.prog X.w) X.A (noteFrame (.ref a) X.env) _ _ _
    refine Sky.land Zc.steady fr0 hf (by rw [← hs]; exact sky) fun h3 fl3 up3 => ?_
    have J3 : Inv X pins σ' H' { s' with heap := h3 } := J.landed nb fl3.1 (up.trans up3) os ag
    obtain ⟨oe, vs3, oeAt, oeZ, oeD⟩ := fl3.there
    have away : a ∉ frs (X.env :: X.outer) := fun hm => by
      obtain ⟨_, o', e', no⟩ := fl3.2.2.1.mem hm
      rw [oeAt] at e'; cases e'
      exact no _ oeD
    have aL : a ≠ X.env.locals := fun z => away (List.mem_filterMap.mpr ⟨X.env, List.mem_cons_self, by rw [hf, z]⟩)
    have aF : a ∉ X.fs := fun hm => by
      obtain ⟨e, he, q⟩ := List.mem_filterMap.mp hm
      exact away (List.mem_filterMap.mpr ⟨e, List.mem_cons_of_mem _ he, q⟩)
    have S3 := J3.suite oeAt oeD na aL aF
    have ask : ∀ {x : Str} {np : Pos} {c : Value} {Q E : Value → Shared → Prop}, Names X x c → Q c { s' with heap := h3 } → wpAny (model X.prog X.w) (X.A.mark (some (.ref a))) (eval (.Name x np) X.env) Q E { s' with heap := h3 } := fun {x np c Q E} hc q => by
      obtain ⟨hg, hd, hm | ⟨hm, hv, hn⟩⟩ := hc
      · exact ld_glob (X := X.suite a ((a, oe) :: (X.pn ++ pins))) S3 hg hm q hd
      · exact ld_blt (X := X.suite a ((a, oe) :: (X.pn ++ pins))) S3 hg hm hv q hn hd
    have ty : PySem.W.Looks (model X.prog X.w) h3 (typeOf (.ref a)) cls := fun A Q E s k q => wpAny_typeOf_ref (k _ _ oeAt) (by rw [oeZ.1]; exact q)
    have all : ∀ {hs' : List ExceptHandler} {l' : List Cl}, HdsA X hs' l' → wManyA X.K Wout D l' cls d σ' H' → wpAny (model X.prog X.w) X.A (handleBy (.ref a) X.env hs') (SP X pins D) X.xe { s' with heap := h3 } := by
      intro hs' l' k
      induction k with
      | nil =>
        intro w
        refine wpAny_handleBy_nil ?_
        obtain ⟨_, _, _, o2, _, T, _, _, he, _, hd, h1, _⟩ := id fl3
        unfold PySem.passOn
        refine wpAny_bind (wpAny_field he hd h1 ?_)
        rw [if_neg (show ¬ ((Value.ref T == Value.none) = true) from by simp)]
        have fin : wpAny (model X.prog X.w) X.A (setFlight (.ref a) X.env.frame) (fun _ s4 => wpAny (model X.prog X.w) X.A (throw (.ref a) : Sem Flow) (SP X pins D) X.xe s4) X.xe { s' with heap := h3 } := by
          rw [hf]
          exact HandSPX.setFlight_upZ fl3 fun h4 hh4 up4 => wpAny_throw (tk _ _ ⟨a, B, sI, pins, σ', H', cls, d, rfl, J, nb, (up.trans up3).trans up4, .inr (.inr (by rw [hs]; exact hh4)), na, os, ag, w⟩)
        first
          | exact wpAny_bind (wpAny_pure (wpAny_bind fin))
          | exact wpAny_bind fin
      | plain hc hsu r ih =>
        rintro ⟨b, hb1, yes, no⟩
        refine wpAny_handleBy_cons (codeAny_handlers_test ?_) (by intro q; cases q)
        refine ask hc ((PySem.W.exm_one (M := model X.prog X.w) J3.kIn ty hb1).here ?_)
        cases b with
        | false => exact ih (no rfl)
        | true =>
          refine codeAny_handlers_suite (HandSPX.lands_againZ fl3 fun h4 fl4 up4 => ?_)
          have J4 : Inv X pins σ' H' { s' with heap := h4 } := J.landed nb fl4.1 ((up.trans up3).trans up4) os ag
          obtain ⟨o4, vs4, at4, z4, d4⟩ := fl4.there
          refine wpAny_mono ((hsu a o4 cls d (X.pn ++ pins) z4 ⟨_, d4⟩).run [] _ _ H' _ (J4.suite at4 d4 na aL aF) (yes rfl a na)) (fun f s6 hsp => ?_) (fun _ _ z => False.elim z)
          cases f with
          | next => obtain ⟨σ6, H6, S6, q6⟩ := hsp; exact ⟨_, _, S6.unsuite ok, q6⟩
          | brk => obtain ⟨σ6, H6, S6, q6⟩ := hsp; exact ⟨_, _, S6.unsuite ok, q6⟩
          | cont => obtain ⟨σ6, H6, S6, q6⟩ := hsp; exact ⟨_, _, S6.unsuite ok, q6⟩
          | ret u => obtain ⟨v6, σ6, H6, S6, r6, q6⟩ := hsp; exact ⟨_, _, _, S6.unsuite ok, r6, q6⟩
      | @named x n i c ts b₀ suite np pos' hds2 l2 hN hi hln hc hsu r ih =>
        rintro ⟨b, hb1, yes, no⟩
        refine wpAny_handleBy_cons (codeAny_handlers_test ?_) (by intro q; cases q)
        refine ask hc ((PySem.W.exm_one (M := model X.prog X.w) J3.kIn ty hb1).here ?_)
        cases b with
        | false => exact ih (no rfl)
        | true =>
          refine codeAny_handlers_suite_as (HandSPX.lands_againZ fl3 fun h4 fl4 up4 => ?_)
          have J4 : Inv X pins σ' H' { s' with heap := h4 } := J.landed nb fl4.1 ((up.trans up3).trans up4) os ag
          obtain ⟨o4, vs4, at4, z4, d4⟩ := fl4.there
          refine store_ok (X := X.suite a ((a, o4) :: (X.pn ++ pins))) (v := .ref a) (J4.suite at4 d4 na aL aF) hN hi (.inl hln) rfl (fun s5 S5 => ?_) (.inr hln)
          refine wpAny_mono ((hsu a o4 cls d (X.pn ++ pins) z4 ⟨_, d4⟩).run [] s5 _ H' _ S5 (yes rfl a na)) (fun f s6 hsp => ?_) (fun _ _ z => False.elim z)
          cases f with
          | next => obtain ⟨σ6, H6, S6, q6⟩ := hsp; exact gone_ok (S6.unsuite ok) hN hi hln fun s7 J7 => ⟨_, _, J7, q6⟩
          | brk => obtain ⟨σ6, H6, S6, q6⟩ := hsp; exact gone_ok (S6.unsuite ok) hN hi hln fun s7 J7 => ⟨_, _, J7, q6⟩
          | cont => obtain ⟨σ6, H6, S6, q6⟩ := hsp; exact gone_ok (S6.unsuite ok) hN hi hln fun s7 J7 => ⟨_, _, J7, q6⟩
          | ret u => obtain ⟨v6, σ6, H6, S6, r6, q6⟩ := hsp; exact gone_ok (S6.unsuite ok) hN hi hln fun s7 J7 => ⟨_, _, _, J7, r6, q6⟩
    exact all hh wish
  · cases f with
    | next => obtain ⟨σ', H', J', q⟩ := hsp; exact wpAny_execs_nil ⟨σ', H', J'.ofTry ok, q⟩
    | brk => obtain ⟨σ', H', J', q⟩ := hsp; exact ⟨σ', H', J'.ofTry ok, q⟩
    | cont => obtain ⟨σ', H', J', q⟩ := hsp; exact ⟨σ', H', J'.ofTry ok, q⟩
    | ret u => obtain ⟨v, σ', H', J', r, q⟩ := hsp; exact ⟨v, σ', H', J'.ofTry ok, r, q⟩
end
end Dl

/-! Drd: C(code).m(..), that raises. -/
namespace Dl
open PySem L2 Evl PySem.Spec PyProof.Rows
theorem RdH.go {K : PySem.W.Frag} {l : Option (Addr × Addr)} {G H G1 H1 : Hp} {p q dx C : Addr} {d : D} {xs : List D} (h : RdH K G H p q dx C d xs) (e : Ext l G H G1 H1) (hp : NotL l p) (hq : NotL l q) : RdH K G1 H1 p q dx C d xs := by
  obtain ⟨u, vs, k1, k2, k3, k4, k5, k6⟩ := h
  exact ⟨u, vs, e.n p (by rw [k3]; simp) k1, e.n q (by rw [k4]; simp) k2, e.h p _ hp k3, e.h q _ hq k4, k5.mono e.g, k6.mono e.g⟩
section
variable {α β : Type} {code : α → D} {pre : α → Prop} {err : α → Option Addr} {code2 : β → D} {fed2 : β → List D} {pre2 : β → Prop} {args2 : β → List D} {res2 : β → Wr} {c : Ctx} {ds : Fm} {n : DE} {ta tb : TA} {a : α} {b : β} {zs ys : List D} {C C' : Addr} {m : Str}
theorem st_newraise (hl : c.l = none) (h : Ea c ta ds zs) (hz : zs = [code a]) (hp : pre a) (he : err a = none) (h2 : Ea c tb ds ys) (hy : ys = args2 b) (hd : code a = code2 b) (hf : fed2 b = []) (hp2 : pre2 b) (hr : res2 b = .err C') (k : n.er (.ref C') none)
    (m1 : (m == "code") = false := by decide) (m2 : (m == "fed") = false := by decide) :
    St c (tDrop (tMeth C m (spW c.K C args2 code2 fed2 pre2 res2) [] c.X (tMake C (spN c.K C code pre err) [] c.X ta) tb)) n ds := fun G H σ at' E l => h G H σ at' _ fun vs G1 H1 e1 s1 r1 => by
  subst hz hy
  have a1 := at'.go e1 s1
  refine new_run (Q := fun x H1 => ∃ a dx fs, x = .ref a ∧ H1 a = some (.ins C dx fs) ∧ fs.lookup m = none ∧ tb σ H1 fun vs H2 => spW c.K C args2 code2 fed2 pre2 res2 (x :: (vs ++ [])) H2 (fun _ H3 => E.nx σ H3) c.X) a1 r1 hp (fun _ x q dx G2 H2 e2 s2 nx nq rd => ?_) (fun C0 z => by rw [he] at z; cases z)
  obtain ⟨u, ws, k1, k2, k3, k4, k5, k6⟩ := id rd
  refine ⟨x, dx, _, rfl, k3, by simp only [List.lookup, m1, m2], h2 G2 H2 σ (a1.go e2 s2) _ fun vs G3 H3 e3 s3 r3 => ?_⟩
  rw [List.append_nil]
  have nl : ∀ b, NotL c.l b := fun b y z => by rw [hl] at z; cases z
  have rd3 := rd.go e3 (nl x) (nl q)
  refine ⟨G3, b, x, q, dx, vs, s3, rfl, r3, hp2, by rw [← hd, hf]; exact rd3, fun d xs z => (by rw [hr] at z; cases z), fun C0 z G4 H4 x4 s4 _ => ?_⟩
  rw [hr] at z; cases z
  have e03 : Ext c.l G1 H1 G3 H3 := e2.trans e3
  have w0 : ∀ b, c.W b → b ≠ x ∧ b ≠ q := fun b w => ⟨fun z => a1.tr b w (by rw [z]; exact nx), fun z => a1.tr b w (by rw [z]; exact nq)⟩
  have ex : Exs c G3 H3 G4 H4 := ⟨x4.g, fun b o w _ _ h => x4.h b o (by show H3 b ≠ none; rw [h]; simp) (fun z => z.elim (w0 b w).1 (w0 b w).2) (fun _ z => nomatch z) h, fun b _ h g => x4.n b h h g, x4.t, fun b y z => (by rw [hl] at z; cases z)⟩
  exact l.er G4 H4 (.ref C') none ((e1.trans e03).s.trans ex) s4 k
end
end Dl

/-! Dse: sorted({n: .. for n in ..}); max of whole numbers; rising rows of numbers. -/
namespace Dl
open PySem L2 Evl PySem.Spec PyProof.Rows
/-! ### rising rows -/
def srt (l : List Nat) : List Nat := (List.range (maxN l + 1)).filter fun x => decide (x ∈ l)
theorem mem_srt {l : List Nat} {x : Nat} : x ∈ srt l ↔ x ∈ l := by
  unfold srt
  rw [List.mem_filter, List.mem_range, decide_eq_true_eq]
  exact ⟨fun h => h.2, fun h => ⟨Nat.lt_succ_of_le (le_maxN h), h⟩⟩
theorem srt_up (l : List Nat) : (srt l).Pairwise (· < ·) := List.Pairwise.filter _ List.pairwise_lt_range
theorem up_uniq : ∀ {a b : List Nat}, a.Pairwise (· < ·) → b.Pairwise (· < ·) → (∀ x, x ∈ a ↔ x ∈ b) → a = b
  | [], [], _, _, _ => rfl
  | [], y :: b, _, _, h => absurd ((h y).mpr List.mem_cons_self) (by simp)
  | x :: a, [], _, _, h => absurd ((h x).mp List.mem_cons_self) (by simp)
  | x :: a, y :: b, ha, hb, h => by
    obtain ⟨a1, a2⟩ := List.pairwise_cons.mp ha
    obtain ⟨b1, b2⟩ := List.pairwise_cons.mp hb
    have e : x = y := by
      rcases List.mem_cons.mp ((h x).mp List.mem_cons_self) with z | z
      · exact z
      · rcases List.mem_cons.mp ((h y).mpr List.mem_cons_self) with q | q
        · exact q.symm
        · have := b1 x z; have := a1 y q; omega
    subst e
    rw [up_uniq a2 b2 fun z => ⟨fun hz => ?_, fun hz => ?_⟩]
    · rcases List.mem_cons.mp ((h z).mp (List.mem_cons_of_mem _ hz)) with q | q
      · have := a1 z hz; omega
      · exact q
    · rcases List.mem_cons.mp ((h z).mpr (List.mem_cons_of_mem _ hz)) with q | q
      · have := b1 z hz; omega
      · exact q
theorem srt_len (l : List Nat) : (srt l).length ≤ l.length := by
  have h := (srt_up l).imp (S := (· ≠ ·)) fun h => Nat.ne_of_lt h
  exact List.Nodup.length_le_of_subset h fun x hx => mem_srt.mp hx
/-! ### sorted(d), the keys whole numbers -/
def rSortDI : List V → Hp → VK → Prop := fun xs H Q =>
  ∃ (a : Addr) (kvs : List (Key × V)) (ks : List Int), xs = [.ref a] ∧ H a = some (.dK kvs) ∧ kvs.map (·.1) = ks.map Sum.inl ∧
  ∀ (ys : List Int) (p : Addr), ys.Perm ks → ys.Pairwise (· ≤ ·) → H p = none → Q (.ref p) (upd H p (.lst (ys.map V.int)))
theorem key_ints : ∀ {us : List Value} {ks : List Int}, us.length = ks.length →
    (∀ (j : Nat) (v : Value), us[j]? = some v → ∃ t, ∃ x : Int, ks[j]? = some x ∧ v = Value.int x t) → IntsAre us ks
  | [], [], _, _ => .nil
  | [], _ :: _, hl, _ => by simp at hl
  | _ :: _, [], hl, _ => by simp at hl
  | u :: us, k :: ks, hl, h => by
    obtain ⟨t, x, e1, rfl⟩ := h 0 u rfl
    cases Option.some.inj e1
    exact .cons _ _ (key_ints (by simpa using hl) fun j v e => by
      obtain ⟨t, x, a, b⟩ := h (j + 1) v (by simpa using e)
      exact ⟨t, x, by simpa using a, b⟩)
theorem cr_sortDI {X : Cx} (calm : X.calm = true) : CallR X (.builtin "sorted") rSortDI := by
  rintro pins s σ H xs us Q I r ⟨a, kvs, ks, rfl, hd, hks, q⟩
  obtain ⟨u, rfl, rx⟩ := vals1 r
  cases rx
  obtain ⟨z, lo, vs, rel, dd⟩ := dk_rd I.hok (Rd.of hd)
  obtain ⟨ep, hat⟩ := dd.dictAt
  have hkeys : vs.map (·.1) = ks.map Sum.inl := by rw [← hks]; exact rel.keys.symm
  have hl : vs.length = ks.length := by have e := congrArg List.length hkeys; simpa using e
  have h16 : vs.length ≤ sizeLine := by rw [← rel.length]; exact z
  refine Calls.call_function_entry kind_sorted plain_sorted entry_sorted (args_sorted1 _) ?_
  unfold Builtin.«sorted»
  refine wpAny_bind (m := checkCount "sorted" 1 1 _)
    (wpAny_pure ?_)
  refine wpAny_bind (PySem.W.kdu_collect (A := X.A.in1)
    (PySem.W.kdl_dict (knd := mixKind X.prog X.w) (kvs := vs) (ep := ep) lo) (I.ok.hd calm) hat h16 fun h' tk acc hk hacc => ?_)
  have hal : acc.toList.length = ks.length := by
    rw [Array.length_toList, hacc.1, hl]
  have hS : IntsAre acc.toList ks := key_ints hal fun j v e => by
    obtain ⟨k, x, e1, e2⟩ := hacc.2 j v (by rw [← Array.getElem?_toList]; exact e)
    have e3 : (ks.map (Sum.inl : Int → Key))[j]? = some k := by rw [← hkeys, List.getElem?_map, e1]; rfl
    rw [List.getElem?_map] at e3
    cases e4 : ks[j]? with
    | none => rw [e4] at e3; cases e3
    | some y =>
      rw [e4] at e3
      cases Option.some.inj e3
      rcases keyIs_shape (show keyIs (Sum.inl y) v = true from e2) with ⟨i, t, ek, ev⟩ | ⟨z, t, ek, ev⟩
      · cases ek; exact ⟨t, y, rfl, ev⟩
      · cases ek
  have I1 : Inv X pins σ H { s with heap := h', toks := tk } := I.kept hk
  have hz2 : acc.toList.length ≤ sizeLine := by rw [hal, ← hl]; exact h16
  refine wpAny_bind (wpAny_newList ?_ hz2)
  have hoL : (h'.push (seqObj "list" acc.toList.toArray 0)).get? h'.objs.size = some (seqObj "list" acc.toList.toArray 0) :=
    Heap.get?_push_size _ rfl
  show wpAny _ _ _ _ _ { s with heap := h'.push (seqObj "list" acc.toList.toArray 0), toks := tk }
  refine wpAny_bind (wpAny_holding (wpAny_call_entry slot_list_sort ⟨_, hoL, rfl⟩ entry_list_sort
    (SrtO.list_sort_ord (s := { s with heap := h'.push (seqObj "list" acc.toList.toArray 0), toks := tk }) SrtO.swo_int hoL hz2
      (fun h2 => SrtO.ints_sortable hS h2) fun out h1 h2 => ⟨_, rfl, ?_⟩) (args_list_sort _)))
  obtain ⟨k1, k2, k3⟩ := SrtO.ints_out hS h1 h2
  obtain ⟨e', he'⟩ := sortedHeap_at (vs := acc.toList) (out := out.toArray) hoL
  have hlen : ((out.map SrtO.iv).map V.int).length ≤ sizeLine := by
    rw [List.length_map, k2.length_eq, ← hal]
    exact hz2
  refine wpAny_pure ⟨_, rfl, .ref h'.objs.size, upd H h'.objs.size (.lst ((out.map SrtO.iv).map V.int)),
    I1.laid (t' := tk) (fun b u e => ?_) (Nat.le_refl _) ⟨hlen, out, e', vals_of_ints k1, he'⟩, rfl, q _ _ k2 k3 (I1.hok.fresh (Nat.le_refl _))⟩
  have hb : b < h'.objs.size := Heap.lt_size e
  rw [sortedHeap_old (Nat.ne_of_lt hb) (by rw [size_push']; exact Nat.lt_succ_of_lt hb)]
  exact Heap.get?_push_of_some _ e
theorem k_sortDI {X : Cx} (calm : X.calm = true) : CallR X (.builtin "sorted") rSortDI := cr_sortDI calm
/-! ### {n: True for n in ..} -/
section
variable {c : Ctx} {ds : Fm} {wi : TI} {g : TG} {tk tv : TE} {vs js : List Nat} {z : D}
theorem putK_keys {ns : List Nat} {kvs : List (Key × V)} {n : Nat} {v : V} (nd : (kvs.map (·.1)).Nodup)
    (h : ∀ k : Key, k ∈ kvs.map (·.1) ↔ ∃ m ∈ ns, k = Sum.inl (m : Int)) :
    ((putK kvs (Sum.inl (n : Int)) v).map (·.1)).Nodup ∧ ∀ k : Key, k ∈ (putK kvs (Sum.inl (n : Int)) v).map (·.1) ↔ ∃ m ∈ ns ++ [n], k = Sum.inl (m : Int) := by
  unfold putK
  by_cases e : (kvs.any fun kv => decide (kv.1 = Sum.inl (n : Int))) = true
  · rw [if_pos e]
    have hk : (kvs.map fun kv => if kv.1 = Sum.inl (n : Int) then (kv.1, v) else kv).map (·.1) = kvs.map (·.1) := by
      rw [List.map_map]
      refine List.map_congr_left fun kv _ => ?_
      show (if kv.1 = Sum.inl (n : Int) then (kv.1, v) else kv).1 = kv.1
      split <;> rfl
    rw [hk]
    refine ⟨nd, fun k => ?_⟩
    rw [h k]
    constructor
    · rintro ⟨m, hm, rfl⟩; exact ⟨m, List.mem_append_left _ hm, rfl⟩
    · rintro ⟨m, hm, rfl⟩
      rcases List.mem_append.mp hm with q | q
      · exact ⟨m, q, rfl⟩
      · rw [List.mem_singleton.mp q]
        obtain ⟨kv, h1, h2⟩ := List.any_eq_true.mp e
        exact (h _).mp (by rw [← of_decide_eq_true h2]; exact List.mem_map.mpr ⟨kv, h1, rfl⟩)
  · rw [if_neg e, List.map_append]
    have hn : (Sum.inl (n : Int) : Key) ∉ kvs.map (·.1) := fun q => by
      obtain ⟨kv, h1, h2⟩ := List.mem_map.mp q
      exact e (List.any_eq_true.mpr ⟨kv, h1, decide_eq_true h2⟩)
    refine ⟨?_, fun k => ?_⟩
    · rw [List.nodup_append]
      refine ⟨nd, by simp, fun a ha b hb => ?_⟩
      rw [List.mem_singleton.mp hb]
      rintro rfl
      exact hn ha
    · rw [List.mem_append, h k]
      constructor
      · rintro (⟨m, hm, rfl⟩ | q)
        · exact ⟨m, List.mem_append_left _ hm, rfl⟩
        · exact ⟨n, by simp, List.mem_singleton.mp q⟩
      · rintro ⟨m, hm, rfl⟩
        rcases List.mem_append.mp hm with q | q
        · exact .inl ⟨m, q, rfl⟩
        · rw [List.mem_singleton.mp q]; exact .inr (by simp)
theorem keys_int {kvs : List (Key × V)} {ns : List Nat} (h : ∀ k : Key, k ∈ kvs.map (·.1) ↔ ∃ m ∈ ns, k = Sum.inl (m : Int)) :
    ∃ ks : List Nat, kvs.map (·.1) = (ks.map fun n : Nat => (n : Int)).map Sum.inl ∧ ∀ x, x ∈ ks ↔ x ∈ ns := by
  have ex : ∀ l : List Key, (∀ k ∈ l, ∃ m ∈ ns, k = Sum.inl (m : Int)) → ∃ ks : List Nat, l = (ks.map fun n : Nat => (n : Int)).map Sum.inl := fun l => by
    induction l with
    | nil => exact fun _ => ⟨[], rfl⟩
    | cons k l ih =>
      intro hl
      obtain ⟨m, _, rfl⟩ := hl k List.mem_cons_self
      obtain ⟨ks, rfl⟩ := ih fun k hk => hl k (List.mem_cons_of_mem _ hk)
      exact ⟨m :: ks, rfl⟩
  obtain ⟨ks, e⟩ := ex _ fun k hk => (h k).mp hk
  refine ⟨ks, e, fun x => ?_⟩
  have := h (Sum.inl (x : Int))
  rw [e, List.map_map] at this
  constructor
  · intro hx
    obtain ⟨m, hm, q⟩ := this.mp (List.mem_map.mpr ⟨x, hx, rfl⟩)
    have : (x : Int) = (m : Int) := Sum.inl.inj q
    have : x = m := by omega
    subst this; exact hm
  · intro hx
    obtain ⟨m, hm, q⟩ := List.mem_map.mp (this.mpr ⟨x, hx, rfl⟩)
    have : (m : Int) = (x : Int) := Sum.inl.inj q
    have : m = x := by omega
    subst this; exact hm
theorem ee_sortDc {ns : List Nat} (hi : Ei c wi ds (ns.map fun n : Nat => D.int (n : Int))) (hz : ns.length ≤ 1000000) (hv : ∀ j ∈ js, j ∈ vs)
    (hs : ∀ (i n : Nat), ns[i]? = some n → ∃ ds2, Eg c g (.int (n : Nat)) (wipeD ds vs) ds2 js ∧ Ee c tk ds2 (.int (n : Nat)) ∧ Ee c tv ds2 z) :
    Ee c (tCB rSortDI (tCons (tDc wi g tYes tk tv vs) tNil)) ds (.lst ((srt ns).map fun n : Nat => D.int (n : Int))) := fun G0 H0 σ at' Q q => by
  show wi σ H0 _
  refine hi G0 H0 σ at' _ fun J G1 H1 e1 s1 it => ?_
  intro Dd hDl
  have at1 : At c G1 H1 σ ds := at'.go e1 s1
  have hg1 : G1 Dd = none := sub_none s1 hDl
  have hne : NotL c.l Dd := fun y z => (at1.lk Dd y z).1 hDl
  let P : Nat → Hp → Prop := fun i H => ∃ G kvs, Ext c.l G1 H1 G H ∧ Ex G H ∧ G Dd = none ∧ H Dd = some (.dK kvs) ∧ kvs.length ≤ i ∧ (kvs.map (·.1)).Nodup ∧
    ∀ k : Key, k ∈ kvs.map (·.1) ↔ ∃ m ∈ ns.take i, k = Sum.inl (m : Int)
  have nl : (ns.map fun n : Nat => D.int (n : Int)).length = ns.length := List.length_map _
  refine ⟨fun i m H => i ≤ ns.length ∧ m = ns.length - i ∧ P i H, ⟨ns.length, Nat.zero_le _, rfl, G1, [], Ext.refl.mut hDl, sub_hid s1 hg1, hg1, upd_same, Nat.le_refl _, List.nodup_nil, fun k => by simp⟩, ?_⟩
  rintro i m H ⟨il, rfl, G, kvs, eg, sb, gd, hd, kl, kn, km⟩
  by_cases hlt : i < ns.length
  · refine .inr ⟨it.go i G H eg.g sb (by rw [nl]; exact hlt), P (i + 1), fun H' p => ⟨ns.length - (i + 1), by omega, hlt, rfl, p⟩, fun x H' y => ?_⟩
    obtain ⟨d, G2, hd', ex, sb2, rx⟩ := it.yld i G H x H' eg.g sb (by rw [nl]; exact hlt) y
    rw [List.getElem?_map, List.getElem?_eq_getElem hlt] at hd'
    have hdd : D.int ((ns[i] : Nat) : Int) = d := Option.some.inj hd'
    subst hdd
    obtain ⟨ds2, hg, hk, hv'⟩ := hs i _ (List.getElem?_eq_getElem hlt)
    have e2 : Ext c.l G1 H1 G2 H' := eg.trans ex.all
    have at2 : At c G2 H' (wipe σ vs) (wipeD ds vs) := (at1.go e2 sb2).wipe vs
    refine hg G2 H' _ x at2 rx _ fun σ2 a2 len2 keep => ⟨wipe_same (by rw [len2, wipe_length]) fun k hk => keep k fun z => hk (hv k z), ?_⟩
    show tk σ2 H' _
    refine hk G2 H' σ2 a2 _ fun v G3 H3 e3 s3 r3 => ?_
    cases r3
    refine hv' G3 H3 σ2 (a2.go e3 s3) _ fun v G4 H4 e4 s4 r4 => ?_
    have h1 : H' Dd = some (.dK kvs) := ex.h Dd _ (fun _ z => nomatch z) hd
    have e34 := e3.trans e4
    have n1 : G4 Dd = none := e34.n Dd (by rw [h1]; simp) (ex.n Dd (by rw [hd]; simp) gd)
    have n2 : H4 Dd = some (.dK kvs) := e34.h Dd _ hne h1
    obtain ⟨p1, p2⟩ := putK_keys (n := ns[i]) (v := v) kn km
    have pl := length_putK kvs (Sum.inl ((ns[i] : Nat) : Int)) v
    refine ⟨kvs, Sum.inl ((ns[i] : Nat) : Int), rfl, n2, sz_lt (by omega), G4, _, (e2.trans e34).mut hDl, sub_hid s4 n1, n1, upd_same, by omega, p1, ?_⟩
    rw [List.take_succ, List.getElem?_eq_getElem hlt]
    exact p2
  · have e : i = ns.length := by omega
    subst e
    rw [List.take_of_length_le (Nat.le_refl _)] at km
    obtain ⟨ks, ek, hks⟩ := keys_int km
    refine .inl ⟨by have := it.stop G H eg.g sb; rw [nl] at this; exact this, ?_⟩
    show rSortDI [V.ref Dd] H Q
    refine ⟨Dd, kvs, _, rfl, hd, ek, fun ys p hp hup hpn => ?_⟩
    obtain ⟨zs, rfl⟩ : ∃ zs : List Nat, ys = zs.map fun n : Nat => (n : Int) := by
      have : ∀ y ∈ ys, ∃ n : Nat, y = (n : Int) := fun y hy => by
        obtain ⟨n, _, rfl⟩ := List.mem_map.mp (hp.mem_iff.mp hy)
        exact ⟨n, rfl⟩
      clear hp hup
      induction ys with
      | nil => exact ⟨[], rfl⟩
      | cons y ys ih =>
        obtain ⟨n, rfl⟩ := this y List.mem_cons_self
        obtain ⟨zs, rfl⟩ := ih fun y hy => this y (List.mem_cons_of_mem _ hy)
        exact ⟨n :: zs, rfl⟩
    have es : zs = srt ns := by
      have hnd : (ks.map fun n : Nat => (n : Int)).Nodup := by
        rw [ek] at kn
        exact List.Pairwise.of_map (S := (· ≠ ·)) (R := (· ≠ ·)) Sum.inl (fun a b h e => h (by rw [e])) kn
      have hnd2 := (hp.nodup_iff.mpr hnd)
      refine up_uniq ?_ (srt_up ns) fun x => ?_
      · have h1 := List.pairwise_map.mp hup
        have h2 : zs.Pairwise fun a b : Nat => (a : Int) ≠ (b : Int) := List.pairwise_map.mp hnd2
        exact (h1.and h2).imp fun {a b} h => by have := h.1; have := h.2; omega
      · rw [mem_srt, ← hks]
        constructor
        · intro hx
          obtain ⟨n, h1, h2⟩ := List.mem_map.mp (hp.mem_iff.mp (List.mem_map.mpr ⟨x, hx, rfl⟩))
          have : n = x := by omega
          subst this; exact h1
        · intro hx
          obtain ⟨n, h1, h2⟩ := List.mem_map.mp (hp.mem_iff.mpr (List.mem_map.mpr ⟨x, hx, rfl⟩))
          have : n = x := by omega
          subst this; exact h1
    subst es
    have ga := Ext.all (l := c.l) (Ext.new (o := .lst ((ks.map fun n : Nat => (n : Int)).map V.int)) hpn (sub_none sb hpn))
    have gp := sub_none sb hpn
    refine q _ _ _ ((e1.trans eg).trans (Ext.all (Ext.new hpn gp))) (sub_upd sb) (.lst upd_same ?_)
    have := Reps.of_ints (K := c.K) (H := upd G p (.lst (((srt ns).map fun n : Nat => (n : Int)).map V.int))) ((srt ns).map fun n : Nat => (n : Int))
    rw [List.map_map (g := D.int)] at this
    exact this
end
/-! ### the greatest of whole numbers -/
theorem max_ex : ∀ {l : List Int}, l ≠ [] → ∃ m, m ∈ l ∧ ∀ x ∈ l, x ≤ m
  | [x], _ => ⟨x, by simp, fun y hy => by rw [List.mem_singleton.mp hy]; exact Int.le_refl _⟩
  | x :: y :: l, _ => by
    obtain ⟨m, h1, h2⟩ := max_ex (l := y :: l) (by simp)
    rcases Int.lt_or_le m x with z | z
    · refine ⟨x, by simp, fun w hw => ?_⟩
      rcases List.mem_cons.mp hw with rfl | hw
      · exact Int.le_refl _
      · have := h2 w hw; omega
    · refine ⟨m, List.mem_cons_of_mem _ h1, fun w hw => ?_⟩
      rcases List.mem_cons.mp hw with rfl | hw
      · exact z
      · exact h2 w hw
noncomputable def maxI (l : List Int) : Int := if h : l ≠ [] then Classical.choose (max_ex h) else 0
theorem maxI_ok {l : List Int} (h : l ≠ []) : maxI l ∈ l ∧ ∀ x ∈ l, x ≤ maxI l := by
  unfold maxI; rw [dif_pos h]; exact Classical.choose_spec (max_ex h)
theorem maxI_eq {l : List Int} {m : Int} (h1 : m ∈ l) (h2 : ∀ x ∈ l, x ≤ m) : maxI l = m := by
  obtain ⟨h3, h4⟩ := maxI_ok (l := l) (fun z => by rw [z] at h1; cases h1)
  have := h2 _ h3; have := h4 _ h1; omega
theorem rc_maxI {K : PySem.W.Frag} {l : List Int} (h : l ≠ []) : Rc K (rMax K) [.lst (l.map D.int)] (.int (maxI l)) := fun G H vs s r Q t => by
  cases r with
  | cons r1 r2 =>
    cases r2
    cases r1 with
    | lst e q =>
      have hv := q.ints
      subst hv
      refine ⟨_, l, rfl, SqL.of (s _ _ e), by cases l with | nil => exact absurd rfl h | cons => simp, fun m hm hb => ?_⟩
      rw [← maxI_eq hm hb]
      exact t.same s (.int _)
end Dl

/-! Dsg: lists that are told are new: the asker may change them. -/
namespace Dl
open PySem L2 Evl PySem.Spec PyProof.Rows
mutual
def noL : D → Bool
  | .lst _ => false
  | .tup xs => noLs xs
  | .obj _ _ xs => noLs xs
  | _ => true
def noLs : List D → Bool
  | [] => true
  | x :: xs => noL x && noLs xs
end
/-- what is known, less the lists -/
def lessL (G : Hp) : Hp := fun b => match G b with
  | some (.lst _) => none
  | o => o
theorem lessL_some {G : Hp} {b : Addr} {o : HO} (h : lessL G b = some o) : G b = some o ∧ ∀ xs, o ≠ .lst xs := by
  unfold lessL at h
  split at h
  · cases h
  · rename_i q
    refine ⟨h, fun xs z => q xs ?_⟩
    rw [h, z]
theorem lessL_ex (G : Hp) : Ex (lessL G) G := fun b o h => (lessL_some h).1
theorem lessL_keep {G : Hp} {b : Addr} {o : HO} (h : G b = some o) (hn : ∀ xs, o ≠ .lst xs) : lessL G b = some o := by
  unfold lessL
  split
  · rename_i xs q
    rw [h] at q
    exact absurd (Option.some.inj q) (hn xs)
  · exact h
section
variable {K : PySem.W.Frag} {G : Hp} {v : V} {d : D} {vs : List V} {ds : List D}
theorem Rep.lessL (h : Rep K G v d) : noL d = true → Rep K (lessL G) v d :=
  Rep.rec (motive_1 := fun v d _ => noL d = true → Rep K (Dl.lessL G) v d) (motive_2 := fun vs ds _ => noLs ds = true → Reps K (Dl.lessL G) vs ds)
    (fun _ => .non) (fun b _ => .bl b) (fun i _ => .int i) (fun x _ => .str x) (fun _ _ _ z => nomatch z)
    (fun h _ r z => by
      refine .tup ?_ (r z)
      rcases h with (h | ⟨o, h⟩) | h
      · exact .inl (.inl (lessL_keep h fun _ z => nomatch z))
      · exact .inl (.inr ⟨o, lessL_keep h fun _ z => nomatch z⟩)
      · exact .inr h)
    (fun h n _ r z => .obj (lessL_keep h fun _ z => nomatch z) n (r z)) (fun n _ => .ty n) (fun C _ => .cls C) (fun _ => .nil)
    (fun _ _ a b z => by
      simp only [noLs, Bool.and_eq_true] at z
      exact .cons (a z.1) (b z.2)) h
theorem Reps.lessL (h : Reps K G vs ds) (hn : noLs ds = true) : Reps K (lessL G) vs ds := by
  induction vs generalizing ds with
  | nil => cases h; exact .nil
  | cons v vs ih =>
    cases h with
    | cons a b =>
      simp only [noLs, Bool.and_eq_true] at hn
      exact .cons (a.lessL hn.1) (ih b hn.2)
end
def noSl : Sl → Bool
  | .no => true
  | .v d => noL d
  | .own xs => noLs xs
  | .drw => true
  | .self _ _ _ _ xs => noLs xs
  | .rdr _ _ _ _ _ d xs => noL d && noLs xs
def flatE : D → Bool
  | .int _ => true
  | .str _ => true
  | .bl _ => true
  | .non => true
  | _ => false
theorem Reps.flat {K : PySem.W.Frag} {G G' : Hp} : ∀ {vs : List V} {ds : List D}, Reps K G vs ds → ds.all flatE = true → Reps K G' vs ds
  | [], _, .nil, _ => .nil
  | v :: vs, d :: ds, .cons a b, h => by
    rw [List.all_cons, Bool.and_eq_true] at h
    refine .cons ?_ (Reps.flat b h.2)
    have h1 := h.1
    cases a with
    | non => exact .non
    | bl b => exact .bl b
    | int i => exact .int i
    | str x => exact .str x
    | lst _ _ => cases h1
    | tup _ _ => cases h1
    | obj _ _ _ => cases h1
    | ty _ => cases h1
    | cls _ => cases h1
section
variable {c : Ctx} {ds ds' : Fm} {n : DE} {te tv : TE} {xs ys : List D} {d : D} {i : Nat}
theorem At.lessL {G H : Hp} {σ : L2.St} (a : At c G H σ ds) (h : ds.all noSl = true) : At c (lessL G) H σ ds := by
  have nn : ∀ {b}, G b = none → Dl.lessL G b = none := fun {b} g => by
    cases e : Dl.lessL G b with
    | none => rfl
    | some o => rw [(lessL_some e).1] at g; cases g
  refine ⟨(lessL_ex G).trans a.sub, ⟨a.fr.len, fun j s hs => ?_, a.fr.ap⟩, fun b y hb => ⟨(a.lk b y hb).1, nn (a.lk b y hb).2.1, (a.lk b y hb).2.2⟩, a.tr⟩
  have o := a.fr.ok j s hs
  have f := List.all_eq_true.mp h s (List.mem_of_getElem? hs)
  cases s with
  | no => trivial
  | v d => obtain ⟨u, o1, o2⟩ := o; exact ⟨u, o1, o2.lessL f⟩
  | own xs => obtain ⟨b, vs, o1, o2, o3, o4, o5⟩ := o; exact ⟨b, vs, o1, nn o2, o3, o4.lessL f, o5⟩
  | drw => obtain ⟨b, y, o1, o2, o3, o4⟩ := o; exact ⟨b, y, o1, o2, nn o3, o4⟩
  | self p dx C ns xs => obtain ⟨fs, o1, o2, o3, o4, o5, o6⟩ := o; exact ⟨fs, o1, nn o2, o3, o4, o5.lessL f, o6⟩
  | rdr w p q dx C d xs =>
    obtain ⟨o1, ⟨u, vs, k1, k2, k3, k4, k5, k6⟩, o3⟩ := o
    simp only [noSl, Bool.and_eq_true] at f
    exact ⟨o1, ⟨u, vs, nn k1, nn k2, k3, k4, k5.lessL f.1, k6.lessL f.2⟩, o3⟩
/-- a list that is told is new -/
theorem new_list (h : Ee c te ds' (.lst xs)) (hd : Fle ds ds') (nl : ds'.all noSl = true) (fl : xs.all flatE = true) {G H : Hp} {σ : L2.St} (a : At c G H σ ds) {Q : VK}
    (q : ∀ p vs H1, Ext c.l G H G H1 → At c G H1 σ ds → H p = none → G p = none → H1 p = some (.lst vs) → Reps c.K G vs xs → Q (.ref p) H1) : te σ H Q := by
  refine h (lessL G) H σ ((a.le hd).lessL nl) Q fun u G2 H2 e s r => ?_
  have go : Ext c.l G H G H2 := ⟨Ex.refl _, e.h, fun _ _ z => z, e.t, e.dr⟩
  have sub : Ex G H2 := fun b o g => e.h b o (fun y hy => by rw [(a.lk b y hy).2.1] at g; cases g) (a.sub b o g)
  cases r with
  | @lst p vs _ hp rp =>
    have fresh : H p = none := by
      cases hh : H p with
      | none => rfl
      | some o =>
        exfalso
        cases hg : lessL G p with
        | none => rw [e.n p (by rw [hh]; simp) hg] at hp; cases hp
        | some o' =>
          have := e.g p o' hg
          rw [hp] at this
          exact (lessL_some hg).2 vs (Option.some.inj this).symm
    exact q p vs H2 go (a.go go sub) fresh (sub_none a.sub fresh) (s p _ hp) (rp.flat fl)
theorem st_ownE (h : Ee c te ds' (.lst xs)) (hd : Fle ds ds') (nl : ds'.all noSl = true) (fl : xs.all flatE = true) (hi : i < ds.length) (k : n.nx (ds.set i (.own xs))) : St c (tAsg te (gName i)) n ds := fun G H σ a E l =>
  new_list h hd nl fl a fun p vs H1 e a1 hp gp h1 r => l.nx G H1 _ _ e.s ⟨a1.sub, a1.fr.own hi gp h1 r (fun y z => (a.lk p y z).1 hp) (fun w => a.tr p w hp) (fun b z => (a.lk b p z).2.2 hp) fun j ys hj ee => (by
    obtain ⟨b, ws, q1, _, q3, _⟩ := a.fr.ok j _ hj
    rw [ee] at q1
    have q : V.ref p = V.ref b := Option.some.inj (Option.some.inj q1)
    cases q
    rw [hp] at q3; cases q3), a1.lk, a1.tr⟩ k
/-- f(..).append(x): a new list changes -/
theorem st_appE (h : Ee c te ds' (.lst xs)) (hd : Fle ds ds') (nl : ds'.all noSl = true) (fl : xs.all flatE = true) (hz : xs.length < 1000000) (hv : Ee c tv ds d) (k : n.nx ds) : St c (tDrop (tBM c.K "list" rAppend te (tCons tv tNil))) n ds := fun G H σ a E l => by
  unfold tDrop tBM
  refine new_list h hd nl fl a fun p vs H1 e a1 hp gp h1 r => ?_
  refine ⟨.inl ⟨rfl, _, SqL.of h1⟩, hv G H1 σ a1 _ fun v G2 H2 e2 s2 r2 => ?_⟩
  have n2 : H2 p = some (.lst vs) := e2.h p _ (fun y z => (a.lk p y z).1 hp) h1
  have g2 : G2 p = none := e2.n p (by rw [h1]; simp) gp
  refine ⟨p, vs, v, rfl, rfl, n2, sz_lt (by rw [r.len]; exact hz), ?_⟩
  -- what stood before stands
  have back : Ext c.l G H G2 (upd H2 p (.lst (vs ++ [v]))) := (e.trans e2).mut hp
  exact l.nx G2 _ σ _ back.s (a.go back (sub_hid s2 g2)) k
theorem ee_listO (hx : ds[i]? = some (.own xs)) : Ee c (tCB (rListG c.K) (tCons (tVar i) tNil)) ds (.lst xs) := fun G H σ a Q q => by
  obtain ⟨b, vs, h1, h2, h3, h4, _⟩ := a.fr.ok i _ hx
  exact ⟨_, h1, b, vs, rfl, .inl (SqL.of h3), Then.lst (fun u G3 H3 e3 s3 r3 => q u G3 H3 e3.all s3 r3) a.sub h4⟩
end
theorem rb_neSame {K : PySem.W.Frag} {x : D} (m : Nat) (hx : shD m x = true) (hm : m ≤ 64) (hn : nbD x = true) : Rb K (rNeG K) x x (.bl false) := by
  have h := rb_neP (K := K) m m hx hx hm hm
  rw [(eqv_iff hn hn).mpr rfl] at h
  exact h
theorem rb_eqSame {K : PySem.W.Frag} {x : D} (m : Nat) (hx : shD m x = true) (hm : m ≤ 64) (hn : nbD x = true) : Rb K (Dl.rEqG K) x x (.bl true) := by
  have h := rb_eqP (K := K) m m hx hx hm hm
  rw [(eqv_iff hn hn).mpr rfl] at h
  exact h
end Dl

/-! Dsh: a def that has another name; a try of several clauses around a call. -/
namespace Dl
open PySem L2 Evl PySem.Spec PyProof.Rows
/-- a def of the top, called by another name -/
structure HasN (K : PySem.W.Frag) (mg : Str → Option Value) (x fn : Str) (st : Stmt) (ps : List Str) : Prop where
  ex : ∃ f fd, Fun K fn fn st f fd ∧ mg x = some (.ref f) ∧ Binds K fd ps []
section
variable {P : Program} {w : World} {K : PySem.W.Frag} {mg : Str → Option Value} {base : Heap} {x fn : Str} {st : Stmt} {ps N : List Str} {k : Nat} {sp : Sp}
theorem HasN.ok (h : HasN K mg x fn st ps) (S : FnScope N ps (defScope st)) (len : ∀ vs H Q E, sp vs H Q E → vs.length = ps.length)
    (hbody : ∀ (f : Addr) (cdv : Value) (A : Around) (outer : List Env) (s : Shared) (H : Hp) (vs : List V) (Q : VK) (E : XK), Room k (A.deeper (envOfC fn (defScope st) s.heap.objs.size f cdv)) → sp vs H Q E →
      ∃ t, PSs (cxOf CX0 P w K mg base N fn (defScope st) f cdv A outer s H E).nox (defBody st) t ∧ t { nx := fun _ H' => Q .non H', rt := Q } (L2.start N vs) H) : Ok P w K mg base CX0 (k + 1) x ps sp := by
  obtain ⟨f, fd, F, m, b⟩ := h.ex
  exact ⟨f, fd, F.ok S len (hbody f), m, F.kp, b⟩
end
section
variable {α : Type} {args : α → List D} {pre : α → Prop} {res : α → Res} {c : Ctx} {ds : Fm} {ta : TA} {a : α} {xs : List D} {n : DE} {C : Addr} {Wout : WX} {hl : List Cl} {i j k : Nat} {cv C' : Value} {ts : Addr → Value → Option Addr → TS}
theorem manyA_run {K : PySem.W.Frag} {D : Ends} {σ : L2.St} {H : Hp} {cls : Value} {d : Option Addr} : ∀ {l : List Cl} {k : Nat} {cv : Value} {oi : Option Nat}, l[k]? = some (cv, oi, ts) → (∀ q cv' r, q < k → l[q]? = some (cv', r) → PySem.W.exmOne K cls cv' = some false) → PySem.W.exmOne K cls cv = some true →
    (∀ a, H a = none → match oi with
      | none => ts a cls d D σ H
      | some i => ts a cls d { nx := fun σ' H' => D.nx (σ'.set i none) H', rt := D.rt, bk := fun σ' H' => D.bk (σ'.set i none) H', ct := fun σ' H' => D.ct (σ'.set i none) H' } (σ.set i (some (.ref a))) H) → wManyA K Wout D l cls d σ H
  | [], k, cv, oi, h, _, _, _ => by simp at h
  | (c0, o0, t0) :: r, 0, cv, oi, h, _, h2, h3 => by
    simp at h
    obtain ⟨rfl, rfl, rfl⟩ := h
    exact ⟨true, h2, fun _ => h3, fun z => nomatch z⟩
  | (c0, o0, t0) :: r, k + 1, cv, oi, h, h1, h2, h3 => by
    refine ⟨false, h1 0 c0 _ (Nat.succ_pos _) rfl, fun z => (nomatch z), fun _ => manyA_run (k := k) (by simpa using h) (fun q cv' r hq hh => h1 (q + 1) cv' r (by omega) (by simpa using hh)) h2 h3⟩
/-- the call raises; clause k, without a name, takes it -/
theorem st_try_cl (h : Ea c ta ds xs) (hx : xs = args a) (hp : pre a) (hr : res a = .err C' none) (hk : hl[k]? = some (cv, none, ts)) (hb : ∀ q cv' r, q < k → hl[q]? = some (cv', r) → PySem.W.exmOne c.K C' cv' = some false) (ht : PySem.W.exmOne c.K C' cv = some true) (hs : ∀ p, St c (ts p C' none) n ds) :
    St c (fun D σ H => tDrop (tCallS (spA c.K args pre res) (WE (wManyA c.K Wout D hl)) ta) D σ H) n ds := fun G H σ at' E l =>
  h G H σ at' _ fun vs G1 H1 e1 s1 r1 => by
    subst hx
    refine ⟨G1, a, s1, r1, hp, fun d' hd => (by rw [hr] at hd; cases hd), fun C0 o z G2 H2 e2 s2 => ?_⟩
    rw [hr] at z; cases z
    exact manyA_run hk hb ht fun p _ => hs p G2 H2 σ (at'.go (e1.trans e2.all) s2) E (l.go (e1.trans e2.all).s)
/-- .. an error with a line; clause k, with a name, takes it: y = z + e.line -/
theorem st_try_clL {m z : Int} (h : Ea c ta ds xs) (hx : xs = args a) (hp : pre a) (hr : res a = .err (.ref C) (some m)) (hk : hl[k]? = some (.ref C, some i, fun b cls d => tAsg (tOp (rAddG c.K) (tC (.int z)) (tXf b cls d C "line" (tVar i))) (gName j))) (hb : ∀ q cv' r, q < k → hl[q]? = some (cv', r) → PySem.W.exmOne c.K (.ref C) cv' = some false) (ht : PySem.W.exmOne c.K (.ref C) (.ref C) = some true)
    (hi : ds[i]? = some .no) (hj : j < ds.length) (hij : i ≠ j) (hn : n.nx (ds.set j (.v (.int (z + m))))) :
    St c (fun D σ H => tDrop (tCallS (spA c.K args pre res) (WE (wManyA c.K Wout D hl)) ta) D σ H) n ds := fun G H σ at' E l =>
  h G H σ at' _ fun vs G1 H1 e1 s1 r1 => by
    subst hx
    refine ⟨G1, a, s1, r1, hp, fun d' hd => (by rw [hr] at hd; cases hd), fun C0 o z0 G2 H2 e2 s2 => ?_⟩
    rw [hr] at z0; cases z0
    intro dd hdd
    refine manyA_run hk hb ht fun b hb => ?_
    have hlt : i < σ.length := by rw [at'.fr.len]; exact (List.getElem?_eq_some_iff.mp hi).1
    refine ⟨.ref b, by rw [List.getElem?_set_self hlt], rfl, rfl, dd, [("line", .int m)], .int m, rfl, upd_same, by simp [List.lookup], ?_⟩
    refine .inl ⟨z, m, rfl, rfl, ?_⟩
    have e3 : Ext c.l G2 H2 G2 (upd H2 dd (.xd [("line", .int m)])) := Ext.refl.mut hdd
    have g2 : G2 dd = none := sub_none s2 hdd
    have a2 := at'.go ((e1.trans e2.all).trans e3) (sub_hid s2 g2)
    show E.nx (((σ.set i (some (.ref b))).set j (some (.int (z + m)))).set i none) _
    have es : ((σ.set i (some (.ref b))).set j (some (.int (z + m)))).set i none = (σ.set i none).set j (some (.int (z + m))) := by
      apply List.ext_getElem?
      intro q
      by_cases h1 : i = q
      · subst h1
        rw [List.getElem?_set_self (by simpa using hlt), List.getElem?_set_ne (Ne.symm hij), List.getElem?_set_self hlt]
      · rw [List.getElem?_set_ne h1]
        by_cases h2 : j = q
        · subst h2
          by_cases h3 : j < σ.length
          · rw [List.getElem?_set_self (by simpa using h3), List.getElem?_set_self (by simpa using h3)]
          · rw [List.getElem?_eq_none (by simp; omega), List.getElem?_eq_none (by simp; omega)]
        · rw [List.getElem?_set_ne h2, List.getElem?_set_ne h1, List.getElem?_set_ne h2, List.getElem?_set_ne h1]
    rw [es]
    have f3 := (a2.fr.no (i := i) none)
    have ed : ds.set i .no = ds := by
      apply List.ext_getElem?
      intro q
      by_cases h1 : i = q
      · subst h1; rw [List.getElem?_set_self (List.getElem?_eq_some_iff.mp hi).1, hi]
      · rw [List.getElem?_set_ne h1]
    rw [ed] at f3
    exact l.nx G2 _ _ _ ((e1.trans e2.all).trans e3).s ⟨a2.sub, f3.set (.int (z + m)) hj, a2.lk, a2.tr⟩ hn
/-- one clause, without a name, around a call that raises an error, be it with a line or without -/
theorem st_try_any {o : Option Int} (h : Ea c ta ds xs) (hx : xs = args a) (hp : pre a) (hr : res a = .err C' o) (ht : PySem.W.exmOne c.K C' cv = some true) (hs : ∀ p d, St c (ts p C' d) n ds) :
    St c (fun D σ H => tDrop (tCallS (spA c.K args pre res) (WE (wOnly c.K cv ts Wout D)) ta) D σ H) n ds := fun G H σ at' E l =>
  h G H σ at' _ fun vs G1 H1 e1 s1 r1 => by
    subst hx
    refine ⟨G1, a, s1, r1, hp, fun d' hd => (by rw [hr] at hd; cases hd), fun C0 o z0 G2 H2 e2 s2 => ?_⟩
    rw [hr] at z0; cases z0
    cases o with
    | none => exact ⟨true, ht, fun _ p _ => hs p none G2 H2 σ (at'.go (e1.trans e2.all) s2) E (l.go (e1.trans e2.all).s), fun z => nomatch z⟩
    | some m =>
      intro dd hdd
      have e3 : Ext c.l G2 H2 G2 (upd H2 dd (.xd [("line", .int m)])) := Ext.refl.mut hdd
      have g2 : G2 dd = none := sub_none s2 hdd
      exact ⟨true, ht, fun _ p _ => hs p (some dd) G2 _ σ (at'.go ((e1.trans e2.all).trans e3) (sub_hid s2 g2)) E (l.go ((e1.trans e2.all).trans e3).s), fun z => nomatch z⟩
end
end Dl

namespace Dl
open PySem L2 Evl
def top (i : Nat) : Stmt := PySem.Challenge.pw_wholecodes_k12_known_codes.main.body.getD i (.Pass ⟨0, 0, 0, 0⟩)
abbrev s_is_whole : Stmt := top 8
abbrev nm_is_whole : List Str := ["thing", "least", "most"]
theorem sc_is_whole : FnScope nm_is_whole ["thing", "least", "most"] (defScope s_is_whole) := ⟨rfl, rfl, rfl, by decide +kernel, rfl, by decide +kernel, by decide +kernel⟩
abbrev s_are_bits : Stmt := top 9
abbrev nm_are_bits : List Str := ["thing", "least", "most", "sign"]
theorem sc_are_bits : FnScope nm_are_bits ["thing", "least", "most"] (defScope s_are_bits) := ⟨rfl, rfl, rfl, by decide +kernel, rfl, by decide +kernel, by decide +kernel⟩
abbrev s_is_row : Stmt := top 10
abbrev nm_is_row : List Str := ["thing"]
theorem sc_is_row : FnScope nm_is_row ["thing"] (defScope s_is_row) := ⟨rfl, rfl, rfl, by decide +kernel, rfl, by decide +kernel, by decide +kernel⟩
abbrev s_is_tail : Stmt := top 11
abbrev nm_is_tail : List Str := ["thing"]
theorem sc_is_tail : FnScope nm_is_tail ["thing"] (defScope s_is_tail) := ⟨rfl, rfl, rfl, by decide +kernel, rfl, by decide +kernel, by decide +kernel⟩
abbrev s_power : Stmt := top 12
abbrev nm_power : List Str := ["times", "found", "base"]
theorem sc_power : FnScope nm_power ["times"] (defScope s_power) := ⟨rfl, rfl, rfl, by decide +kernel, rfl, by decide +kernel, by decide +kernel⟩
abbrev s_row_at : Stmt := top 14
abbrev nm_row_at : List Str := ["code", "r", "again", "stop", "k", "d", "i"]
theorem sc_row_at : FnScope nm_row_at ["code", "r"] (defScope s_row_at) := ⟨rfl, rfl, rfl, by decide +kernel, rfl, by decide +kernel, by decide +kernel⟩
abbrev s_before_tail_row : Stmt := top 15
abbrev nm_before_tail_row : List Str := ["code", "i", "again", "stop", "k", "d"]
theorem sc_before_tail_row : FnScope nm_before_tail_row ["code", "i"] (defScope s_before_tail_row) := ⟨rfl, rfl, rfl, by decide +kernel, rfl, by decide +kernel, by decide +kernel⟩
abbrev s_first_number : Stmt := top 16
abbrev nm_first_number : List Str := ["code", "r", "row"]
theorem sc_first_number : FnScope nm_first_number ["code", "r"] (defScope s_first_number) := ⟨rfl, rfl, rfl, by decide +kernel, rfl, by decide +kernel, by decide +kernel⟩
abbrev s_tail_row_with : Stmt := top 17
abbrev nm_tail_row_with : List Str := ["code", "n", "low", "high", "half"]
theorem sc_tail_row_with : FnScope nm_tail_row_with ["code", "n"] (defScope s_tail_row_with) := ⟨rfl, rfl, rfl, by decide +kernel, rfl, by decide +kernel, by decide +kernel⟩
abbrev s_row_with : Stmt := top 18
abbrev nm_row_with : List Str := ["code", "n", "r"]
theorem sc_row_with : FnScope nm_row_with ["code", "n"] (defScope s_row_with) := ⟨rfl, rfl, rfl, by decide +kernel, rfl, by decide +kernel, by decide +kernel⟩
abbrev s_places : Stmt := top 19
abbrev nm_places : List Str := ["number", "k", "found", "place"]
theorem sc_places : FnScope nm_places ["number", "k"] (defScope s_places) := ⟨rfl, rfl, rfl, by decide +kernel, rfl, by decide +kernel, by decide +kernel⟩
abbrev s_bits_of : Stmt := top 20
abbrev nm_bits_of : List Str := ["code", "n", "r", "bits", "k"]
theorem sc_bits_of : FnScope nm_bits_of ["code", "n"] (defScope s_bits_of) := ⟨rfl, rfl, rfl, by decide +kernel, rfl, by decide +kernel, by decide +kernel⟩
abbrev s_size_of : Stmt := top 21
abbrev nm_size_of : List Str := ["code", "n", "r", "again", "stop", "k", "d", "i"]
theorem sc_size_of : FnScope nm_size_of ["code", "n"] (defScope s_size_of) := ⟨rfl, rfl, rfl, by decide +kernel, rfl, by decide +kernel, by decide +kernel⟩
abbrev s_Code_init : Stmt := inClass (top 13) 0
abbrev nm_Code_init : List Str := ["self", "rows", "tail", "row"]
theorem sc_Code_init : FnScope nm_Code_init ["self", "rows", "tail"] (defScope s_Code_init) := ⟨rfl, rfl, rfl, by decide +kernel, rfl, by decide +kernel, by decide +kernel⟩
abbrev s_Code_bits : Stmt := inClass (top 13) 5
abbrev nm_Code_bits : List Str := ["self", "n"]
theorem sc_Code_bits : FnScope nm_Code_bits ["self", "n"] (defScope s_Code_bits) := ⟨rfl, rfl, rfl, by decide +kernel, rfl, by decide +kernel, by decide +kernel⟩
abbrev s_Code_size : Stmt := inClass (top 13) 6
abbrev nm_Code_size : List Str := ["self", "n"]
theorem sc_Code_size : FnScope nm_Code_size ["self", "n"] (defScope s_Code_size) := ⟨rfl, rfl, rfl, by decide +kernel, rfl, by decide +kernel, by decide +kernel⟩
abbrev s_near_rows : Stmt := top 23
abbrev nm_near_rows : List Str := ["code", "longest", "row"]
theorem sc_near_rows : FnScope nm_near_rows ["code"] (defScope s_near_rows) := ⟨rfl, rfl, rfl, by decide +kernel, rfl, by decide +kernel, by decide +kernel⟩
abbrev s_are_unfree : Stmt := top 24
abbrev nm_are_unfree : List Str := ["code", "r", "other"]
theorem sc_are_unfree : FnScope nm_are_unfree ["code", "r", "other"] (defScope s_are_unfree) := ⟨rfl, rfl, rfl, by decide +kernel, rfl, by decide +kernel, by decide +kernel⟩
abbrev s_is_free : Stmt := top 25
abbrev nm_is_free : List Str := ["code", "some", "r", "other"]
theorem sc_is_free : FnScope nm_is_free ["code"] (defScope s_is_free) := ⟨rfl, rfl, rfl, by decide +kernel, rfl, by decide +kernel, by decide +kernel⟩
abbrev s_check_free : Stmt := top 26
abbrev nm_check_free : List Str := ["code"]
theorem sc_check_free : FnScope nm_check_free ["code"] (defScope s_check_free) := ⟨rfl, rfl, rfl, by decide +kernel, rfl, by decide +kernel, by decide +kernel⟩
abbrev s_clash : Stmt := top 27
abbrev nm_clash : List Str := ["code"]
theorem sc_clash : FnScope nm_clash ["code"] (defScope s_clash) := ⟨rfl, rfl, rfl, by decide +kernel, rfl, by decide +kernel, by decide +kernel⟩
abbrev s_least_clash : Stmt := top 28
abbrev nm_least_clash : List Str := ["code", "n", "m"]
theorem sc_least_clash : FnScope nm_least_clash ["code"] (defScope s_least_clash) := ⟨rfl, rfl, rfl, by decide +kernel, rfl, by decide +kernel, by decide +kernel⟩
abbrev s_least_other : Stmt := top 29
abbrev nm_least_other : List Str := ["code", "n", "bits", "found", "r", "m"]
theorem sc_least_other : FnScope nm_least_other ["code", "n"] (defScope s_least_other) := ⟨rfl, rfl, rfl, by decide +kernel, rfl, by decide +kernel, by decide +kernel⟩
abbrev s_least_in_row : Stmt := top 30
abbrev nm_least_in_row : List Str := ["code", "r", "bits", "n", "head", "k", "begin", "rest", "value", "bit", "found"]
theorem sc_least_in_row : FnScope nm_least_in_row ["code", "r", "bits", "n"] (defScope s_least_in_row) := ⟨rfl, rfl, rfl, by decide +kernel, rfl, by decide +kernel, by decide +kernel⟩
abbrev s_number_of : Stmt := top 32
abbrev nm_number_of : List Str := ["bits", "found", "bit"]
theorem sc_number_of : FnScope nm_number_of ["bits"] (defScope s_number_of) := ⟨rfl, rfl, rfl, by decide +kernel, rfl, by decide +kernel, by decide +kernel⟩
abbrev s_within_row : Stmt := top 33
abbrev nm_within_row : List Str := ["code", "r", "bits", "head", "k", "rest"]
theorem sc_within_row : FnScope nm_within_row ["code", "r", "bits"] (defScope s_within_row) := ⟨rfl, rfl, rfl, by decide +kernel, rfl, by decide +kernel, by decide +kernel⟩
abbrev s_far_row : Stmt := top 34
abbrev nm_far_row : List Str := ["code", "bits"]
theorem sc_far_row : FnScope nm_far_row ["code", "bits"] (defScope s_far_row) := ⟨rfl, rfl, rfl, by decide +kernel, rfl, by decide +kernel, by decide +kernel⟩
abbrev s_rows_with : Stmt := top 35
abbrev nm_rows_with : List Str := ["code", "bits", "found", "r", "row"]
theorem sc_rows_with : FnScope nm_rows_with ["code", "bits"] (defScope s_rows_with) := ⟨rfl, rfl, rfl, by decide +kernel, rfl, by decide +kernel, by decide +kernel⟩
abbrev s_least_with : Stmt := top 36
abbrev nm_least_with : List Str := ["code", "bits", "found", "row"]
theorem sc_least_with : FnScope nm_least_with ["code", "bits"] (defScope s_least_with) := ⟨rfl, rfl, rfl, by decide +kernel, rfl, by decide +kernel, by decide +kernel⟩
abbrev s_count_with : Stmt := top 37
abbrev nm_count_with : List Str := ["code", "bits", "row"]
theorem sc_count_with : FnScope nm_count_with ["code", "bits"] (defScope s_count_with) := ⟨rfl, rfl, rfl, by decide +kernel, rfl, by decide +kernel, by decide +kernel⟩
abbrev s_starting : Stmt := top 38
abbrev nm_starting : List Str := ["code", "bits"]
theorem sc_starting : FnScope nm_starting ["code", "bits"] (defScope s_starting) := ⟨rfl, rfl, rfl, by decide +kernel, rfl, by decide +kernel, by decide +kernel⟩
abbrev s_how_many : Stmt := top 39
abbrev nm_how_many : List Str := ["code", "bits"]
theorem sc_how_many : FnScope nm_how_many ["code", "bits"] (defScope s_how_many) := ⟨rfl, rfl, rfl, by decide +kernel, rfl, by decide +kernel, by decide +kernel⟩
abbrev s_is_whole_in : Stmt := top 40
abbrev nm_is_whole_in : List Str := ["code", "bits", "r", "head", "k"]
theorem sc_is_whole_in : FnScope nm_is_whole_in ["code", "bits"] (defScope s_is_whole_in) := ⟨rfl, rfl, rfl, by decide +kernel, rfl, by decide +kernel, by decide +kernel⟩
abbrev s_is_dead_in : Stmt := top 41
abbrev nm_is_dead_in : List Str := ["code", "bits"]
theorem sc_is_dead_in : FnScope nm_is_dead_in ["code", "bits"] (defScope s_is_dead_in) := ⟨rfl, rfl, rfl, by decide +kernel, rfl, by decide +kernel, by decide +kernel⟩
abbrev s_dead : Stmt := top 42
abbrev nm_dead : List Str := ["code", "size", "found", "layer", "turn", "longer", "bits", "bit"]
theorem sc_dead : FnScope nm_dead ["code", "size"] (defScope s_dead) := ⟨rfl, rfl, rfl, by decide +kernel, rfl, by decide +kernel, by decide +kernel⟩
abbrev s_lowest : Stmt := top 43
abbrev nm_lowest : List Str := ["top", "bottom", "one", "other"]
theorem sc_lowest : FnScope nm_lowest ["top", "bottom"] (defScope s_lowest) := ⟨rfl, rfl, rfl, by decide +kernel, rfl, by decide +kernel, by decide +kernel⟩
abbrev s_share : Stmt := top 44
abbrev nm_share : List Str := ["code", "again", "stop", "k", "d", "size", "bottom", "top", "row"]
theorem sc_share : FnScope nm_share ["code"] (defScope s_share) := ⟨rfl, rfl, rfl, by decide +kernel, rfl, by decide +kernel, by decide +kernel⟩
abbrev s_order : Stmt := top 46
abbrev nm_order : List Str := ["code", "many", "r"]
theorem sc_order : FnScope nm_order ["code"] (defScope s_order) := ⟨rfl, rfl, rfl, by decide +kernel, rfl, by decide +kernel, by decide +kernel⟩
abbrev s_growth_of : Stmt := top 47
abbrev nm_growth_of : List Str := ["code", "again", "stop", "k", "d"]
theorem sc_growth_of : FnScope nm_growth_of ["code"] (defScope s_growth_of) := ⟨rfl, rfl, rfl, by decide +kernel, rfl, by decide +kernel, by decide +kernel⟩
abbrev s_growth : Stmt := top 48
abbrev nm_growth : List Str := ["code", "word", "top", "bottom"]
theorem sc_growth : FnScope nm_growth ["code"] (defScope s_growth) := ⟨rfl, rfl, rfl, by decide +kernel, rfl, by decide +kernel, by decide +kernel⟩
abbrev s_grows_more : Stmt := top 49
abbrev nm_grows_more : List Str := ["one", "other", "here", "there"]
theorem sc_grows_more : FnScope nm_grows_more ["one", "other"] (defScope s_grows_more) := ⟨rfl, rfl, rfl, by decide +kernel, rfl, by decide +kernel, by decide +kernel⟩
abbrev s_turns : Stmt := top 50
abbrev nm_turns : List Str := ["code", "most", "found", "r"]
theorem sc_turns : FnScope nm_turns ["code", "most"] (defScope s_turns) := ⟨rfl, rfl, rfl, by decide +kernel, rfl, by decide +kernel, by decide +kernel⟩
abbrev s_differences : Stmt := top 51
abbrev nm_differences : List Str := ["one", "other", "most", "some", "n"]
theorem sc_differences : FnScope nm_differences ["one", "other", "most"] (defScope s_differences) := ⟨rfl, rfl, rfl, by decide +kernel, rfl, by decide +kernel, by decide +kernel⟩
abbrev s_near_number : Stmt := top 52
abbrev nm_near_number : List Str := ["one", "other"]
theorem sc_near_number : FnScope nm_near_number ["one", "other"] (defScope s_near_number) := ⟨rfl, rfl, rfl, by decide +kernel, rfl, by decide +kernel, by decide +kernel⟩
abbrev s_figures : Stmt := top 53
abbrev nm_figures : List Str := ["number", "found"]
theorem sc_figures : FnScope nm_figures ["number"] (defScope s_figures) := ⟨rfl, rfl, rfl, by decide +kernel, rfl, by decide +kernel, by decide +kernel⟩
abbrev s_far_number : Stmt := top 54
abbrev nm_far_number : List Str := ["one", "other", "first", "second", "near"]
theorem sc_far_number : FnScope nm_far_number ["one", "other"] (defScope s_far_number) := ⟨rfl, rfl, rfl, by decide +kernel, rfl, by decide +kernel, by decide +kernel⟩
abbrev s_farther : Stmt := top 55
abbrev nm_farther : List Str := ["one", "other", "most"]
theorem sc_farther : FnScope nm_farther ["one", "other", "most"] (defScope s_farther) := ⟨rfl, rfl, rfl, by decide +kernel, rfl, by decide +kernel, by decide +kernel⟩
abbrev s_longer : Stmt := top 56
abbrev nm_longer : List Str := ["one", "other", "most", "more", "found", "n", "less"]
theorem sc_longer : FnScope nm_longer ["one", "other"] (defScope s_longer) := ⟨rfl, rfl, rfl, by decide +kernel, rfl, by decide +kernel, by decide +kernel⟩
abbrev s_gap : Stmt := top 57
abbrev nm_gap : List Str := ["one", "other", "n", "less"]
theorem sc_gap : FnScope nm_gap ["one", "other"] (defScope s_gap) := ⟨rfl, rfl, rfl, by decide +kernel, rfl, by decide +kernel, by decide +kernel⟩
abbrev s_l_begin : Stmt := top 59
abbrev nm_l_begin : List Str := ["_law_script"]
theorem sc_l_begin : FnScope nm_l_begin ["_law_script"] (defScope s_l_begin) := ⟨rfl, rfl, rfl, by decide +kernel, rfl, by decide +kernel, by decide +kernel⟩
abbrev s_l_draw : Stmt := top 60
abbrev nm_l_draw : List Str := ["_law_draws", "_law_size", "_law_cell", "_law_found"]
theorem sc_l_draw : FnScope nm_l_draw ["_law_draws", "_law_size"] (defScope s_l_draw) := ⟨rfl, rfl, rfl, by decide +kernel, rfl, by decide +kernel, by decide +kernel⟩
abbrev s_l_figures : Stmt := top 62
abbrev nm_l_figures : List Str := ["_law_n", "_law_found"]
theorem sc_l_figures : FnScope nm_l_figures ["_law_n"] (defScope s_l_figures) := ⟨rfl, rfl, rfl, by decide +kernel, rfl, by decide +kernel, by decide +kernel⟩
abbrev s_law : Stmt := top 63
abbrev nm_law : List Str := ["_law_script", "_law_draws", "_law_k", "_law_ones", "_law_gamma", "_law_n", "_law_last", "_law_wide", "_law_turn", "_law_half", "_law_spare", "_law_gone"]
theorem sc_law : FnScope nm_law ["_law_script"] (defScope s_law) := ⟨rfl, rfl, rfl, by decide +kernel, rfl, by decide +kernel, by decide +kernel⟩
structure Adr where
  Code : Addr
  BadCode : Addr
  NotFree : Addr
  BITS : Addr
structure Txt (K : PySem.W.Frag) (mg : Str → Option Value) (B : Adr) : Prop where
  d_is_whole : Has K mg "is_whole" s_is_whole ["thing", "least", "most"]
  d_are_bits : Has K mg "are_bits" s_are_bits ["thing", "least", "most"]
  d_is_row : Has K mg "is_row" s_is_row ["thing"]
  d_is_tail : Has K mg "is_tail" s_is_tail ["thing"]
  d_power : Has K mg "power" s_power ["times"]
  d_row_at : Has K mg "row_at" s_row_at ["code", "r"]
  d_before_tail_row : Has K mg "before_tail_row" s_before_tail_row ["code", "i"]
  d_first_number : Has K mg "first_number" s_first_number ["code", "r"]
  d_tail_row_with : Has K mg "tail_row_with" s_tail_row_with ["code", "n"]
  d_row_with : Has K mg "row_with" s_row_with ["code", "n"]
  d_places : Has K mg "places" s_places ["number", "k"]
  d_bits_of : Has K mg "bits_of" s_bits_of ["code", "n"]
  d_size_of : Has K mg "size_of" s_size_of ["code", "n"]
  d_Code_init : HasI K B.Code "Code.__init__" s_Code_init ["self", "rows", "tail"]
  d_Code_bits : HasM K B.Code "bits" "Code.bits" s_Code_bits ["self", "n"]
  d_Code_size : HasM K B.Code "size" "Code.size" s_Code_size ["self", "n"]
  d_near_rows : Has K mg "near_rows" s_near_rows ["code"]
  d_are_unfree : Has K mg "are_unfree" s_are_unfree ["code", "r", "other"]
  d_is_free : Has K mg "is_free" s_is_free ["code"]
  d_check_free : Has K mg "check_free" s_check_free ["code"]
  d_clash : Has K mg "clash" s_clash ["code"]
  d_least_clash : Has K mg "least_clash" s_least_clash ["code"]
  d_least_other : Has K mg "least_other" s_least_other ["code", "n"]
  d_least_in_row : Has K mg "least_in_row" s_least_in_row ["code", "r", "bits", "n"]
  d_number_of : Has K mg "number_of" s_number_of ["bits"]
  d_within_row : Has K mg "within_row" s_within_row ["code", "r", "bits"]
  d_far_row : Has K mg "far_row" s_far_row ["code", "bits"]
  d_rows_with : Has K mg "rows_with" s_rows_with ["code", "bits"]
  d_least_with : Has K mg "least_with" s_least_with ["code", "bits"]
  d_count_with : Has K mg "count_with" s_count_with ["code", "bits"]
  d_starting : Has K mg "starting" s_starting ["code", "bits"]
  d_how_many : Has K mg "how_many" s_how_many ["code", "bits"]
  d_is_whole_in : Has K mg "is_whole_in" s_is_whole_in ["code", "bits"]
  d_is_dead_in : Has K mg "is_dead_in" s_is_dead_in ["code", "bits"]
  d_dead : Has K mg "dead" s_dead ["code", "size"]
  d_lowest : Has K mg "lowest" s_lowest ["top", "bottom"]
  d_share : Has K mg "share" s_share ["code"]
  d_order : Has K mg "order" s_order ["code"]
  d_growth_of : Has K mg "growth_of" s_growth_of ["code"]
  d_growth : Has K mg "growth" s_growth ["code"]
  d_grows_more : Has K mg "grows_more" s_grows_more ["one", "other"]
  d_turns : Has K mg "turns" s_turns ["code", "most"]
  d_differences : Has K mg "differences" s_differences ["one", "other", "most"]
  d_near_number : Has K mg "near_number" s_near_number ["one", "other"]
  d_figures : Has K mg "figures" s_figures ["number"]
  d_far_number : Has K mg "far_number" s_far_number ["one", "other"]
  d_farther : Has K mg "farther" s_farther ["one", "other", "most"]
  d_longer : Has K mg "longer" s_longer ["one", "other"]
  d_gap : Has K mg "gap" s_gap ["one", "other"]
  d_l_begin : Has K mg "_law_begin" s_l_begin ["_law_script"]
  d_l_draw : Has K mg "_law_draw" s_l_draw ["_law_draws", "_law_size"]
  d_l_figures : Has K mg "_law_figures" s_l_figures ["_law_n"]
  cl_Code : Cls K B.Code
  g_Code : mg "Code" = some (.ref B.Code)
  na_Code_rows : NoAttr K B.Code "rows"
  na_Code_tail : NoAttr K B.Code "tail"
  na_Code_begin : NoAttr K B.Code "begin"
  e_BadCode : Err K mg "BadCode" B.BadCode
  e_NotFree : Err K mg "NotFree" B.NotFree
  c_BITS : mg "BITS" = some (.ref B.BITS)
  k_BITS : ∀ G, Rep K G (.ref B.BITS) (.tup [.str "0", .str "1"])
  c_MOST_ROWS : ∃ t, mg "MOST_ROWS" = some (.int 6 t)
  n_all : mg "all" = none
  n_any : mg "any" = none
  n_bool : mg "bool" = none
  n_int : mg "int" = none
  n_isinstance : mg "isinstance" = none
  n_len : mg "len" = none
  n_list : mg "list" = none
  n_max : mg "max" = none
  n_min : mg "min" = none
  n_range : mg "range" = none
  n_sorted : mg "sorted" = none
  n_str : mg "str" = none
  n_sum : mg "sum" = none
  n_tuple : mg "tuple" = none
--@@prelude
section
variable {P : Program} {w : World} {K : PySem.W.Frag} {mg : Str → Option Value} {base : Heap} {B : Adr}
local macro_rules | `(tactic| walk_at "st0") => `(tactic| simp only [cxOf, List.map_cons, List.map_nil, List.length_cons, List.length_nil, List.cons_append, List.nil_append, List.replicate_succ, List.replicate_zero, Nat.reduceAdd, Nat.reduceSub])
local macro_rules | `(tactic| walk_at "lt") => `(tactic| first | decide | (simp only [wipeD, List.length_cons, List.length_nil, List.length_set]; omega))
local macro_rules | `(tactic| walk_at "fr") => `(tactic| dsimp only [List.set_cons_succ, List.set_cons_zero])
local macro_rules | `(tactic| walk_at "side") => `(tactic| first | assumption | omega | decide | rotate_left)
local macro_rules | `(tactic| walk_at "ix") => `(tactic| first | with_unfolding_all rfl | assumption | rotate_left)
local macro_rules | `(tactic| walk_at "rb") => `(tactic| first
  | with_reducible exact rb_addN | with_reducible exact rb_addN1 | with_reducible exact rb_addN2 | with_reducible exact rb_addN3
  | ((with_reducible apply rb_addB); walk_at "side")
  | ((with_reducible apply rb_mulB); walk_at "side"; walk_at "side")
  | with_reducible exact rb_mul2N
  | ((with_reducible apply rb_subN); (first | assumption | omega))
  | ((with_reducible apply rb_subN1); (first | assumption | omega))
  | ((with_reducible apply rb_subN8); (first | assumption | omega))
  | with_reducible exact rb_mod2N | with_reducible exact rb_div2N
  | with_reducible exact rb_ltN | with_reducible exact rb_leN | with_reducible exact rb_gtN | with_reducible exact rb_geN | with_reducible exact rb_eqN | with_reducible exact rb_neN
  | with_reducible exact rb_eqN0
  | with_reducible exact rb_eqB | with_reducible exact rb_neB
  | with_reducible exact rb_addI | with_reducible exact rb_subI
  | with_reducible exact rb_ltI | with_reducible exact rb_le | with_reducible exact rb_gt | with_reducible exact rb_ge | with_reducible exact rb_eqI | with_reducible exact rb_neI
  | with_reducible exact rb_is | with_reducible exact rb_nis | with_reducible exact rb_eqS | with_reducible exact rb_neS
  | ((with_reducible apply rb_mod); walk_at "side")
  | ((with_reducible apply rb_ixT); walk_at "ix") | ((with_reducible apply rb_ixL); walk_at "ix")
  | ((with_reducible apply rb_addL); walk_at "side")
  | rotate_left)
local macro_rules | `(tactic| walk_at "rc") => `(tactic| first
  | with_reducible exact rc_lenM | with_reducible exact rc_lenML | with_reducible exact rc_lenL | with_reducible exact rc_lenT | ((with_reducible apply rc_lenB); walk_at "side") | with_reducible exact rc_int | with_reducible exact rc_intB
  | with_reducible exact rc_sum | with_reducible exact rc_all | with_reducible exact rc_any
  | rotate_left)
local macro_rules | `(tactic| walk_at "ea") => `(tactic| first
  | with_reducible exact ea_nil
  | ((with_reducible apply ea_cons); walk_at "ev"; walk_at "ea"))
local macro_rules | `(tactic| walk_at "ev") => `(tactic| first
  | ((with_reducible apply ee_var); rfl)
  | with_reducible exact ee_int | with_reducible exact ee_str | with_reducible exact ee_bl | with_reducible exact ee_non
  | ((with_reducible apply ee_op); walk_at "ev"; walk_at "ev"; walk_at "rb")
  | ((with_reducible apply ee_fld); walk_at "ev"; walk_at "at"; walk_at "at"; rfl)
  | ((with_reducible apply ee_cb); walk_at "ea"; walk_at "rc")
  | ((with_reducible apply ee_tup); walk_at "ea"; walk_at "dec")
  | ((with_reducible apply ee_lst); walk_at "ea"; walk_at "dec")
  | ((with_reducible apply ee_un); walk_at "ev"; (exact ru_neg))
  | ((with_reducible apply ee_startsB); walk_at "ev"; walk_at "ev")
  | ((with_reducible apply ee_sl); walk_at "ev"; walk_at "eo"; walk_at "eo"; walk_at "rs")
  | ((with_reducible apply ee_kt); walk_at "at")
  | ((with_reducible apply ee_call3); walk_at "ea"; (exact rfl); walk_at "pre"; (exact rfl))
  | ((with_reducible apply ee_call2); walk_at "ea"; (exact rfl); walk_at "pre"; (exact rfl))
  | ((with_reducible apply ee_call); walk_at "ea"; (exact rfl); walk_at "pre"; (exact rfl))
  | rotate_left)
local macro_rules | `(tactic| walk_at "pre") => `(tactic| ((try dsimp only); first | assumption | omega | (refine ⟨?_, ?_⟩ <;> first | assumption | omega) | (refine ⟨?_, ?_, ?_⟩ <;> first | assumption | omega) | rotate_left))
local macro_rules | `(tactic| walk_at "dec") => `(tactic| first | (simp only [List.length_cons, List.length_nil]; omega) | decide | rotate_left)
local macro_rules | `(tactic| walk_at "et") => `(tactic| first
  | ((with_reducible apply et_test); walk_at "ev")
  | ((with_reducible apply et_truG); walk_at "ev"; (first | exact trivial | (with_reducible apply truOkB; walk_at "side") | rotate_left))
  | ((with_reducible apply et_not); walk_at "et")
  | rotate_left)
local macro_rules | `(tactic| walk_at "un2") => `(tactic| exact eg_tup rfl (egs_cons (eg_name (by walk_at "lt")) (egs_cons (eg_name (by walk_at "lt")) egs_nil)))
local macro_rules | `(tactic| walk_at "un4") => `(tactic| exact eg_tup rfl (egs_cons (eg_name (by walk_at "lt")) (egs_cons (eg_name (by walk_at "lt")) (egs_cons (eg_name (by walk_at "lt")) (egs_cons (eg_name (by walk_at "lt")) egs_nil)))))
local macro_rules | `(tactic| walk_at "eo") => `(tactic| first | with_reducible exact eo_none | ((with_reducible apply eo_some); walk_at "ev"))
local macro_rules | `(tactic| walk_at "rs") => `(tactic| first | ((with_reducible apply rs_fromB); walk_at "side") | ((with_reducible apply rs_uptoB); walk_at "side") | ((with_reducible apply rs_midB); walk_at "side"; walk_at "side") | with_reducible exact rs_uptoT | with_reducible exact rs_tup | with_reducible exact rs_lst | rotate_left)

set_option hygiene false in
local macro_rules | `(tactic| walk_at "at") => `(tactic| first | exact T.cl_Code | exact T.na_Code_rows | exact T.na_Code_tail | exact T.na_Code_begin | exact T.k_BITS)
--@@endprelude
/-- what a power is, with bounds -/
theorem pw_lt (n : Nat) : 2 ^ n < 2 ^ (n + 1) := Nat.pow_lt_pow_right (by decide) (by omega)
abbrev sp_power (K : PySem.W.Frag) (B : Adr) : Sp := spA K (fun n : Nat => [D.int (n : Nat)]) (fun n => n ≤ 100000) (fun n => .ok (.int ((2 ^ n : Nat) : Int)))
theorem ok_power (T : Txt K mg B) : Ok P w K mg base CX0 1 "power" ["times"] (sp_power K B) := by
  refine T.d_power.ok sc_power (spA_len fun _ => rfl) (fun f cdv A outer s H vs Q E hr h => ⟨_, (pss_cons (ps_asg (pe_tup (pa_cons pe_int (pa_cons pe_int pa_nil))) (k_tup (n := 2) K rfl rfl (pgs_cons (pg_name (i := 1) sc_power.nd rfl (Or.inl rfl)) (pgs_cons (pg_name (i := 2) sc_power.nd rfl (Or.inl rfl)) pgs_nil))))
    (pss_cons (ps_while PassesOwn.never (k_tru K rfl (pv 0)) (pss_cons (ps_if (k_tru K rfl (pe_op op_modG (pv 0) pe_int)) (pss_one (ps_set (i := 1) sc_power.nd rfl (Or.inl rfl) (pe_op (k_mul K rfl) (pv 1) (pv 2)))) pss_nil)
    (pss_cons (ps_set (i := 2) sc_power.nd rfl (Or.inl rfl) (pe_op (k_mul K rfl) (pv 2) (pv 2)))
    (pss_one (ps_set (i := 0) sc_power.nd rfl (Or.inl rfl) (pe_op op_divG (pv 0) pe_int))))))
    (pss_one (ps_ret (pv 1))))), go_fn h fun a W ha => ?_⟩)
  walk_at "st0"
  refine st_seq (st_asgG (d := .tup [.int 1, .int 2]) (by walk_at "ev") (by walk_at "un2") ?_)
  walk_at "fr"
  -- the turn: found = 2 ^ done, base = 2 ^ m; what is left: t turns of weight m
  refine st_seq (st_while (α := Nat × Nat × Nat) (fun p => [.v (.int (p.2.2 : Nat)), .v (.int ((2 ^ p.1 : Nat) : Int)), .v (.int ((2 ^ p.2.1 : Nat) : Int))]) (fun p => p.1 + p.2.1 * p.2.2 = a ∧ 1 ≤ p.2.1 ∧ p.2.1 ≤ 2 * a + 1) (fun p => p.2.2) ?_ ?_)
  · exact ⟨(0, 1, a), .keep rfl (.keep rfl (.keep rfl .nil)), by dsimp only; omega⟩
  · rintro ⟨e, m, t⟩ ⟨i1, i2, i3⟩
    dsimp only at i1 i2 i3 ⊢
    refine ⟨_, by walk_at "et", fun hb => ?_, fun hb => ?_⟩
    · have ht : 0 < t := by simp [truD] at hb; omega
      have hm : m ≤ a := Nat.le_trans (Nat.le_mul_of_pos_right m ht) (by omega)
      have he : e ≤ a := by omega
      refine st_seq (st_if (by walk_at "et") (fun hc => ?_) (fun hc => ?_))
      · have h1 : t % 2 = 1 := by simp [truD] at hc; omega
        refine st_asg (ee_op (ee_var rfl) (ee_var rfl) (rb_mulNW (e + 1) (m + 1) (pw_lt e) (pw_lt m) (by omega) (by omega) (by omega))) (by walk_at "lt") ?_
        walk_at "fr"
        refine st_seq (st_asg (ee_op (ee_var rfl) (ee_var rfl) (rb_mulNW (m + 1) (m + 1) (pw_lt m) (pw_lt m) (by omega) (by omega) (by omega))) (by walk_at "lt") ?_)
        walk_at "fr"
        refine st_asg (ee_op (ee_var rfl) ee_int rb_div2N) (by walk_at "lt") ?_
        walk_at "fr"
        refine ⟨(e + m, m + m, t / 2), .keep rfl (.keep ?_ (.keep ?_ .nil)), ?_, ?_⟩
        · rw [Nat.pow_add]
        · rw [Nat.pow_add]
        · dsimp only
          have h2 : t = 2 * (t / 2) + 1 := by omega
          have h3 : m * t = m + (m + m) * (t / 2) := by
            conv => lhs; rw [h2]
            rw [Nat.mul_add, ← Nat.mul_assoc, Nat.mul_comm m 2, Nat.two_mul, Nat.mul_one, Nat.add_comm]
          omega
        · dsimp only; omega
      · have h1 : t % 2 = 0 := by simp [truD] at hc; omega
        refine st_next ?_
        refine st_seq (st_asg (ee_op (ee_var rfl) (ee_var rfl) (rb_mulNW (m + 1) (m + 1) (pw_lt m) (pw_lt m) (by omega) (by omega) (by omega))) (by walk_at "lt") ?_)
        walk_at "fr"
        refine st_asg (ee_op (ee_var rfl) ee_int rb_div2N) (by walk_at "lt") ?_
        walk_at "fr"
        refine ⟨(e, m + m, t / 2), .keep rfl (.keep rfl (.keep ?_ .nil)), ?_, ?_⟩
        · rw [Nat.pow_add]
        · dsimp only
          have h2 : t = 2 * (t / 2) := by omega
          have h3 : m * t = (m + m) * (t / 2) := by
            rw [← Nat.two_mul, Nat.mul_comm 2 m, Nat.mul_assoc, ← h2]
          omega
        · dsimp only; omega
    · have ht : t = 0 := by simp [truD] at hb; omega
      subst ht
      refine st_ret (ee_var rfl) ?_
      have : e = a := by omega
      rw [this]
abbrev sp_row_at (K : PySem.W.Frag) (B : Adr) : Sp := spA2 K (fun (c : CodeM) (r : Nat) => [codeD B.Code c, D.int (r : Nat)]) (fun c r => Wf c ∧ r ≤ 20100) (fun c r => .ok (rowD (c.row r)))
theorem mul_le4 {a b n : Nat} (h : a ≤ n) (hb : b ≤ 4) : a * b ≤ 4 * n := by
  have := Nat.mul_le_mul h hb; omega
theorem ok_row_at (T : Txt K mg B) : Ok P w K mg base CX0 1 "row_at" ["code", "r"] (sp_row_at K B) := by
  refine T.d_row_at.ok sc_row_at (spA_len fun _ => rfl) (fun f cdv A outer s H vs Q E hr h => ⟨_, (pss_cons (ps_if (pt_cmpR op_ltG (pv 1) (pe_callB (k_len K rfl) (by rfl) T.n_len (by decide +kernel) (pa_cons (k_fld K rfl (pv 0) rfl) pa_nil)) (nomark _)) (pss_one (ps_ret (pe_ix (k_ix K rfl) (k_fld K rfl (pv 0) rfl) (pv 1) (fun _ _ => rfl)))) pss_nil)
    (pss_cons (ps_asg (k_fld K rfl (pv 0) rfl) (k_tup (n := 4) K rfl rfl (pgs_cons (pg_name (i := 2) sc_row_at.nd rfl (Or.inl rfl)) (pgs_cons (pg_name (i := 3) sc_row_at.nd rfl (Or.inl rfl)) (pgs_cons (pg_name (i := 4) sc_row_at.nd rfl (Or.inl rfl)) (pgs_cons (pg_name (i := 5) sc_row_at.nd rfl (Or.inl rfl)) pgs_nil))))))
    (pss_cons (ps_set (i := 6) sc_row_at.nd rfl (Or.inl rfl) (pe_op op_subG (pv 1) (pe_callB (k_len K rfl) (by rfl) T.n_len (by decide +kernel) (pa_cons (k_fld K rfl (pv 0) rfl) pa_nil))))
    (pss_one (ps_ret (pe_tup (pa_cons (pe_op (k_add K rfl) (pe_op (k_mul K rfl) (pv 2) (pv 6)) (pv 3)) (pa_cons (pe_op (k_add K rfl) (pv 4) (pe_op (k_mul K rfl) (pv 5) (pv 6))) pa_nil)))))))), go_fn h fun a W ha => ?_⟩)
  obtain ⟨c, r⟩ := a
  dsimp only at ha
  obtain ⟨wf, hr0⟩ := ha
  walk_at "st0"
  refine st_seq (st_if (by walk_at "et") (fun hb => ?_) (fun hb => ?_))
  · have hl : r < c.rows.length := by simpa using hb
    refine st_ret (ee_op (by walk_at "ev") (by walk_at "ev") (rb_ixT (atI_map (List.getElem?_eq_getElem hl)))) ?_
    rw [CodeM.row_lt hl]
  · have hl : c.rows.length ≤ r := by simpa using hb
    have hm := mul_le4 (show r - c.rows.length ≤ 20100 by omega) wf.au
    have h3 := wf.dl
    have h4 := wf.sl
    refine st_next (st_seq (st_asgG (by walk_at "ev") (by walk_at "un4") ?_))
    walk_at "fr"
    refine st_seq (st_asg (d := .int ((r - c.rows.length : Nat) : Int)) (ee_op (ee_var rfl) (by walk_at "ev") (rb_subN (by simpa using hl))) (by walk_at "lt") ?_)
    walk_at "fr"
    refine st_ret (d := rowD (c.row r)) ?_ rfl
    rw [CodeM.row_ge hl]
    refine ee_tup (ea_cons (ee_op (ee_op (ee_var rfl) (ee_var rfl) (rb_mulB (by omega) (by omega))) (ee_var rfl) (rb_addB (by rw [rep_len]; omega))) (ea_cons (ee_op (ee_var rfl) (ee_op (ee_var rfl) (ee_var rfl) (rb_mulNL (by omega))) rb_addN) ea_nil)) (by simp)
/-- bounds of the numbers that are asked -/
theorem pow_bd {m n : Nat} (h : m ≤ n) : 2 ^ m ≤ 2 ^ n := Nat.pow_le_pow_right (by decide) h
abbrev sp_before_tail_row (K : PySem.W.Frag) (B : Adr) : Sp := spA2 K (fun (c : CodeM) (i : Nat) => [codeD B.Code c, D.int (i : Nat)]) (fun c i => Wf c ∧ i ≤ 33000) (fun c i => .ok (.int (c.before i : Nat)))
theorem ok_before_tail_row (T : Txt K mg B) : Ok P w K mg base CX0 2 "before_tail_row" ["code", "i"] (sp_before_tail_row K B) := by
  refine T.d_before_tail_row.ok sc_before_tail_row (spA_len fun _ => rfl) (fun f cdv A outer s H vs Q E hr h => ⟨_, (pss_cons (ps_asg (k_fld K rfl (pv 0) rfl) (k_tup (n := 4) K rfl rfl (pgs_cons (pg_name (i := 2) sc_before_tail_row.nd rfl (Or.inl rfl)) (pgs_cons (pg_name (i := 3) sc_before_tail_row.nd rfl (Or.inl rfl)) (pgs_cons (pg_name (i := 4) sc_before_tail_row.nd rfl (Or.inl rfl)) (pgs_cons (pg_name (i := 5) sc_before_tail_row.nd rfl (Or.inl rfl)) pgs_nil))))))
    (pss_cons (ps_if (pt_cmpR (k_eq K rfl hr.units) (pv 5) pe_int (nomark _)) (pss_one (ps_ret (pe_op (k_mul K rfl) (pv 1) (pe_callH (ok_power T) (hr.mono (by first | decide | omega)) rfl pass0 (pa_cons (pv 4) pa_nil))))) pss_nil)
    (pss_one (ps_ret (pe_op op_divG (pe_op (k_mul K rfl) (pe_callH (ok_power T) (hr.mono (by first | decide | omega)) rfl pass0 (pa_cons (pv 4) pa_nil)) (pe_op op_subG (pe_callH (ok_power T) (hr.mono (by first | decide | omega)) rfl pass0 (pa_cons (pe_op (k_mul K rfl) (pv 5) (pv 1)) pa_nil)) pe_int)) (pe_op op_subG (pe_callH (ok_power T) (hr.mono (by first | decide | omega)) rfl pass0 (pa_cons (pv 5) pa_nil)) pe_int)))))), go_fn h fun a W ha => ?_⟩)
  obtain ⟨c, i⟩ := a
  dsimp only at ha
  obtain ⟨wf, hi⟩ := ha
  have h3 := wf.dl
  have h4 := wf.kl
  have hk : 2 ^ c.k ≤ 2 ^ 8 := pow_bd h4
  walk_at "st0"
  refine st_seq (st_asgG (by walk_at "ev") (by walk_at "un4") ?_)
  walk_at "fr"
  refine st_seq (st_if (by walk_at "et") (fun hb => ?_) (fun hb => ?_))
  · have hd : c.d = 0 := by simpa using hb
    refine st_ret (ee_op (ee_var rfl) (by walk_at "ev") (rb_mulNR (by omega))) ?_
    dsimp only [CodeM.before]
    rw [if_pos hd]
  · have hd : ¬ c.d = 0 := by simpa using hb
    have hd2 : c.d * i ≤ 3 * i := Nat.mul_le_mul_right _ h3
    have hdp : 2 ^ c.d ≤ 2 ^ 3 := pow_bd h3
    have hd1 : 1 < 2 ^ c.d := Nat.one_lt_two_pow hd
    have p1 := CodeM.pow_ge_one (c.d * i)
    refine st_next (st_ret (d := .int (c.before i : Nat)) ?_ rfl)
    dsimp only [CodeM.before]
    rw [if_neg hd]
    refine ee_op (ee_op (by walk_at "ev") (ee_op (ee_call (a := c.d * i) (ea_cons (ee_op (ee_var rfl) (ee_var rfl) (rb_mulNL (by omega))) ea_nil) rfl (by omega) rfl) ee_int (rb_subN1 p1)) (rb_mulNL (by omega))) (ee_op (by walk_at "ev") ee_int (rb_subN1 (by omega))) (rb_divN (by omega) (Nat.lt_of_lt_of_le (show 2 ^ c.d - 1 < 2 ^ 3 by omega) (pow_bd (by decide))))
abbrev sp_first_number (K : PySem.W.Frag) (B : Adr) : Sp := spA2 K (fun (c : CodeM) (r : Nat) => [codeD B.Code c, D.int (r : Nat)]) (fun c r => Wf c ∧ r ≤ 33000) (fun c r => .ok (.int (c.first r : Nat)))
theorem ok_first_number (T : Txt K mg B) : Ok P w K mg base CX0 3 "first_number" ["code", "r"] (sp_first_number K B) := by
  refine T.d_first_number.ok sc_first_number (spA_len fun _ => rfl) (fun f cdv A outer s H vs Q E hr h => ⟨_, (pss_cons (ps_if (pt_cmpR op_ltG (pv 1) (pe_callB (k_len K rfl) (by rfl) T.n_len (by decide +kernel) (pa_cons (k_fld K rfl (pv 0) rfl) pa_nil)) (nomark _)) (pss_one (ps_ret (pe_callB (k_sum K rfl rfl) (by rfl) T.n_sum (by decide +kernel) (pa_cons (pe_lc (own := [("row", 2)]) rfl sc_first_number.nd (k_itup K rfl (pe_slice (k_sl K rfl) (k_fld K rfl (pv 0) rfl) po_none (po_some (pv 1)))) (blkOk_by (own := [("row", 2)]) (N := nm_first_number) (sc := defScope s_first_number) (by decide +kernel)) (fun _ _ _ _ _ => (pg_name (i := 2) sc_first_number.nd rfl (Or.inl rfl))) (fun _ _ _ _ _ => pts_nil) (fun _ _ _ _ _ => (pe_callH (ok_power T) (hr.mono (by first | decide | omega)) rfl pass0 (pa_cons (pe_ix (k_ix K rfl) (pv 2) pe_int (fun _ _ => rfl)) pa_nil)))) pa_nil)))) pss_nil)
    (pss_one (ps_ret (pe_op (k_add K rfl) (k_fld K rfl (pv 0) rfl) (pe_callH (ok_before_tail_row T) (hr.mono (by first | decide | omega)) rfl pass0 (pa_cons (pv 0) (pa_cons (pe_op op_subG (pv 1) (pe_callB (k_len K rfl) (by rfl) T.n_len (by decide +kernel) (pa_cons (k_fld K rfl (pv 0) rfl) pa_nil))) pa_nil))))))), go_fn h fun a W ha => ?_⟩)
  obtain ⟨c, r⟩ := a
  dsimp only at ha
  obtain ⟨wf, hr0⟩ := ha
  walk_at "st0"
  refine st_seq (st_if (by walk_at "et") (fun hb => ?_) (fun hb => ?_))
  · have hl : r < c.rows.length := by simpa using hb
    refine st_ret (d := .int (c.first r : Nat)) ?_ rfl
    rw [CodeM.first_rows (Nat.le_of_lt hl)]
    refine ee_cb (ea_cons (ee_lcA (ys := c.rows.take r) (gD := rowD) (js := [2]) (ei_tup (ee_is (by walk_at "ev") (by rw [List.map_take]))) (fun x => .int ((2 ^ x.2 : Nat) : Int)) (by rw [List.length_take]; omega) (by decide) (fun i y hy => ?_)) ea_nil) rc_sumN
    have hm : y ∈ c.rows := List.mem_of_mem_take (List.mem_of_getElem? hy)
    have := (wf.rb y hm).2.2
    exact ⟨_, eg_name (by walk_at "lt"), ee_call (a := y.2) (ea_cons (ee_op (ee_var rfl) ee_int (rb_ixT rfl)) ea_nil) rfl (by omega) rfl⟩
  · have hl : c.rows.length ≤ r := by simpa using hb
    refine st_next (st_ret (d := .int (c.first r : Nat)) ?_ rfl)
    have e := c.first_tail (r - c.rows.length)
    rw [Nat.add_sub_cancel' hl] at e
    rw [e]
    exact ee_op (by walk_at "ev") (ee_call2 (x := c) (y := r - c.rows.length) (by walk_at "ea") rfl ⟨wf, by omega⟩ rfl) rb_addN
theorem before_lt {c : CodeM} (i : Nat) : c.before i < c.before (i + 1) := by
  have := CodeM.pow_ge_one (c.k + c.d * i); rw [CodeM.before_succ]; omega
theorem before_mono {c : CodeM} {i j : Nat} (h : i ≤ j) : c.before i ≤ c.before j := by
  induction h with
  | refl => exact Nat.le_refl _
  | step _ ih => exact Nat.le_trans ih (Nat.le_of_lt (before_lt _))
theorem before_inv {c : CodeM} {i j : Nat} (h : c.before i < c.before j) : i < j := by
  rcases Nat.lt_or_ge i j with z | z
  · exact z
  · exact absurd (before_mono (c := c) z) (by omega)
/-- numbers that are asked: not beyond the first 16000 rows of the tail -/
abbrev NOk (c : CodeM) (n : Nat) : Prop := n < c.beg + c.before 16000
theorem rowOf_tail {c : CodeM} {n i : Nat} (h1 : c.beg + c.before i ≤ n) (h2 : n < c.beg + c.before (i + 1)) : c.rowOf n = c.rows.length + i :=
  CodeM.rowOf_eq (by rw [CodeM.first_tail]; exact h1) (by rw [Nat.add_assoc, CodeM.first_tail]; exact h2)
abbrev sp_tail_row_with (K : PySem.W.Frag) (B : Adr) : Sp := spA2 K (fun (c : CodeM) (n : Nat) => [codeD B.Code c, D.int (n : Nat)]) (fun c n => Wf c ∧ c.beg ≤ n ∧ NOk c n) (fun c n => .ok (.int ((c.rowOf n - c.rows.length : Nat) : Int)))
theorem ok_tail_row_with (T : Txt K mg B) : Ok P w K mg base CX0 3 "tail_row_with" ["code", "n"] (sp_tail_row_with K B) := by
  refine T.d_tail_row_with.ok sc_tail_row_with (spA_len fun _ => rfl) (fun f cdv A outer s H vs Q E hr h => ⟨_, (pss_cons (ps_asg (pe_tup (pa_cons pe_int (pa_cons pe_int pa_nil))) (k_tup (n := 2) K rfl rfl (pgs_cons (pg_name (i := 2) sc_tail_row_with.nd rfl (Or.inl rfl)) (pgs_cons (pg_name (i := 3) sc_tail_row_with.nd rfl (Or.inl rfl)) pgs_nil))))
    (pss_cons (ps_while PassesOwn.never (pt_cmpR op_leG (pe_op (k_add K rfl) (k_fld K rfl (pv 0) rfl) (pe_callH (ok_before_tail_row T) (hr.mono (by first | decide | omega)) rfl pass0 (pa_cons (pv 0) (pa_cons (pv 3) pa_nil)))) (pv 1) (nomark _)) (pss_one (ps_par (i := 2) (j := 3) (by rfl) sc_tail_row_with.nd rfl rfl (by decide) rfl rfl (pa_cons (pv 3) (pa_cons (pe_op (k_mul K rfl) pe_int (pv 3)) pa_nil)) (by rfl))))
    (pss_cons (ps_while PassesOwn.never (pt_cmpR op_ltG (pv 2) (pe_op op_subG (pv 3) pe_int) (nomark _)) (pss_cons (ps_set (i := 4) sc_tail_row_with.nd rfl (Or.inl rfl) (pe_op op_divG (pe_op (k_add K rfl) (pv 2) (pv 3)) pe_int))
    (pss_one (ps_if (pt_cmpR op_leG (pe_op (k_add K rfl) (k_fld K rfl (pv 0) rfl) (pe_callH (ok_before_tail_row T) (hr.mono (by first | decide | omega)) rfl pass0 (pa_cons (pv 0) (pa_cons (pv 4) pa_nil)))) (pv 1) (nomark _)) (pss_one (ps_set (i := 2) sc_tail_row_with.nd rfl (Or.inl rfl) (pv 4))) (pss_one (ps_set (i := 3) sc_tail_row_with.nd rfl (Or.inl rfl) (pv 4)))))))
    (pss_one (ps_ret (pv 2)))))), go_fn h fun a W ha => ?_⟩)
  obtain ⟨c, n⟩ := a
  dsimp only at ha
  obtain ⟨wf, hn0, hn1⟩ := ha
  walk_at "st0"
  refine st_seq (st_asgG (d := .tup [.int 0, .int 1]) (by walk_at "ev") (by walk_at "un2") ?_)
  walk_at "fr"
  have small : ∀ l, c.beg + c.before l ≤ n → l < 16000 := fun l h => before_inv (c := c) (by omega)
  refine st_seq (st_while (α := Nat × Nat) (fun p => [.v (codeD B.Code c), .v (.int (n : Nat)), .v (.int (p.1 : Nat)), .v (.int (p.2 : Nat)), .no]) (fun p => c.beg + c.before p.1 ≤ n ∧ p.1 < p.2 ∧ p.2 ≤ 2 * p.1 + 1) (fun p => 40000 - p.2) ?_ ?_)
  · exact ⟨(0, 1), .keep rfl (.keep rfl (.keep rfl (.keep rfl (.keep rfl .nil)))), by dsimp only; rw [CodeM.before_zero]; omega⟩
  · rintro ⟨l, h⟩ ⟨i1, i2, i3⟩
    dsimp only at i1 i2 i3 ⊢
    have hl := small l i1
    refine ⟨_, et_test (ee_op (ee_op (by walk_at "ev") (ee_call2 (by walk_at "ea") rfl ⟨wf, by omega⟩ rfl) rb_addN) (ee_var rfl) rb_leN), fun hb => ?_, fun hb => ?_⟩
    · have hb' : c.beg + c.before h ≤ n := by simpa using hb
      have := small h hb'
      refine st_par (by walk_at "ea") (by walk_at "lt") (by walk_at "lt") ?_
      walk_at "fr"
      exact ⟨(h, 2 * h), .keep rfl (.keep rfl (.keep rfl (.keep rfl (.keep rfl .nil)))), by dsimp only; omega, by dsimp only; omega⟩
    · have hb' : n < c.beg + c.before h := by simpa using hb
      refine st_seq (st_while (α := Nat × Nat) (fun p => [.v (codeD B.Code c), .v (.int (n : Nat)), .v (.int (p.1 : Nat)), .v (.int (p.2 : Nat)), .no]) (fun p => c.beg + c.before p.1 ≤ n ∧ n < c.beg + c.before p.2 ∧ p.1 < p.2 ∧ p.2 ≤ 33000) (fun p => p.2 - p.1) ?_ ?_)
      · exact ⟨(l, h), Fle.refl _, by dsimp only; omega⟩
      · clear hb hb' i1 i2 i3 hl
        rintro ⟨l, h⟩ ⟨i1, i2, i3, i4⟩
        dsimp only at i1 i2 i3 i4 ⊢
        refine ⟨_, by walk_at "et", fun hb => ?_, fun hb => ?_⟩
        · have hb' : l < h - 1 := by simpa using hb
          refine st_seq (st_asg (by walk_at "ev") (by walk_at "lt") ?_)
          walk_at "fr"
          refine st_if (et_test (ee_op (ee_op (by walk_at "ev") (ee_call2 (by walk_at "ea") rfl ⟨wf, by omega⟩ rfl) rb_addN) (ee_var rfl) rb_leN)) (fun hb => ?_) (fun hb => ?_)
          · have hb' : c.beg + c.before ((l + h) / 2) ≤ n := by simpa using hb
            refine st_asg (by walk_at "ev") (by walk_at "lt") ?_
            walk_at "fr"
            exact ⟨((l + h) / 2, h), .keep rfl (.keep rfl (.keep rfl (.keep rfl (.drop .nil)))), by dsimp only; omega, by dsimp only; omega⟩
          · have hb' : n < c.beg + c.before ((l + h) / 2) := by simpa using hb
            refine st_asg (by walk_at "ev") (by walk_at "lt") ?_
            walk_at "fr"
            exact ⟨(l, (l + h) / 2), .keep rfl (.keep rfl (.keep rfl (.keep rfl (.drop .nil)))), by dsimp only; omega, by dsimp only; omega⟩
        · have hb' : ¬ l < h - 1 := by simpa using hb
          have e : h = l + 1 := by omega
          subst e
          refine st_ret (ee_var rfl) ?_
          rw [rowOf_tail i1 i2, Nat.add_sub_cancel_left]
theorem row_bd {c : CodeM} {n : Nat} (h : NOk c n) : c.rowOf n ≤ c.rows.length + 16000 := by
  have h1 := (CodeM.rowOf_ok (c := c) n).1
  have h2 := CodeM.first_tail (c := c) 16000
  rcases Nat.lt_or_ge (c.rows.length + 16000) (c.rowOf n) with z | z
  · have := CodeM.first_mono (c := c) (Nat.le_of_lt z); unfold NOk at h; omega
  · exact z
abbrev sp_row_with (K : PySem.W.Frag) (B : Adr) : Sp := spA2 K (fun (c : CodeM) (n : Nat) => [codeD B.Code c, D.int (n : Nat)]) (fun c n => Wf c ∧ NOk c n) (fun c n => .ok (.int (c.rowOf n : Nat)))
theorem ok_row_with (T : Txt K mg B) : Ok P w K mg base CX0 4 "row_with" ["code", "n"] (sp_row_with K B) := by
  refine T.d_row_with.ok sc_row_with (spA_len fun _ => rfl) (fun f cdv A outer s H vs Q E hr h => ⟨_, (pss_cons (ps_if (pt_cmpR op_geG (pv 1) (k_fld K rfl (pv 0) rfl) (nomark _)) (pss_one (ps_ret (pe_op (k_add K rfl) (pe_callB (k_len K rfl) (by rfl) T.n_len (by decide +kernel) (pa_cons (k_fld K rfl (pv 0) rfl) pa_nil)) (pe_callH (ok_tail_row_with T) (hr.mono (by first | decide | omega)) rfl pass0 (pa_cons (pv 0) (pa_cons (pv 1) pa_nil)))))) pss_nil)
    (pss_cons (ps_set (i := 2) sc_row_with.nd rfl (Or.inl rfl) pe_int)
    (pss_cons (ps_while PassesOwn.never (pt_cmpR op_leG (pe_callH (ok_first_number T) (hr.mono (by first | decide | omega)) rfl pass0 (pa_cons (pv 0) (pa_cons (pe_op (k_add K rfl) (pv 2) pe_int) pa_nil))) (pv 1) (nomark _)) (pss_one (ps_aug (i := 2) sc_row_with.nd rfl (Or.inl rfl) pe_int ip_add)))
    (pss_one (ps_ret (pv 2)))))), go_fn h fun a W ha => ?_⟩)
  obtain ⟨c, n⟩ := a
  dsimp only at ha
  obtain ⟨wf, hn1⟩ := ha
  have hrl := wf.rl
  walk_at "st0"
  refine st_seq (st_if (by walk_at "et") (fun hb => ?_) (fun hb => ?_))
  · have hb' : c.beg ≤ n := by simpa using hb
    refine st_ret (ee_op (by walk_at "ev") (ee_call2 (by walk_at "ea") rfl ⟨wf, hb', hn1⟩ rfl) rb_addN) ?_
    have h1 : c.rows.length ≤ c.rowOf n := by
      rcases Nat.lt_or_ge (c.rowOf n) c.rows.length with z | z
      · have h2 := (CodeM.rowOf_ok (c := c) n).2
        have h3 := CodeM.first_mono (c := c) (show c.rowOf n + 1 ≤ c.rows.length from z)
        rw [CodeM.first_beg] at h3
        omega
      · exact z
    rw [Nat.add_sub_cancel' h1]
  · have hb' : n < c.beg := by simpa using hb
    refine st_next (st_seq (st_asg (by walk_at "ev") (by walk_at "lt") ?_))
    walk_at "fr"
    refine st_seq (st_while (α := Nat) (fun p => [.v (codeD B.Code c), .v (.int (n : Nat)), .v (.int (p : Nat))]) (fun p => c.first p ≤ n ∧ p ≤ 6) (fun p => 7 - p) ?_ ?_)
    · exact ⟨0, Fle.refl _, Nat.zero_le _, by omega⟩
    · rintro r ⟨i1, i2⟩
      refine ⟨_, et_test (ee_op (ee_call2 (by walk_at "ea") rfl ⟨wf, by omega⟩ rfl) (ee_var rfl) rb_leN), fun hb => ?_, fun hb => ?_⟩
      · have hb2 : c.first (r + 1) ≤ n := by simpa using hb
        refine st_aug1 rfl ?_
        walk_at "fr"
        refine ⟨r + 1, Fle.refl _, ⟨hb2, ?_⟩, by omega⟩
        rcases Nat.lt_or_ge r c.rows.length with z | z
        · omega
        · have := CodeM.first_mono (c := c) (show c.rows.length ≤ r + 1 by omega)
          rw [CodeM.first_beg] at this
          omega
      · have hb2 : n < c.first (r + 1) := by simpa using hb
        refine st_ret (ee_var rfl) ?_
        rw [CodeM.rowOf_eq i1 hb2]
theorem plc_cons (v : Nat) : ∀ i, CodeM.plc v (i + 1) = ((v / 2 ^ i) % 2 == 1) :: CodeM.plc v i := by
  intro i
  induction i generalizing v with
  | zero => simp [CodeM.plc]
  | succ i ih =>
    show CodeM.plc (v / 2) (i + 1) ++ [v % 2 == 1] = _
    rw [ih, Nat.div_div_eq_div_mul, Nat.mul_comm 2, ← Nat.pow_succ]
    rfl
theorem bit_at (v : Nat) : atI [D.str "0", D.str "1"] ((v % 2 : Nat) : Int) = some (.str (bs [v % 2 == 1])) := by
  have : v % 2 = 0 ∨ v % 2 = 1 := by omega
  rcases this with h | h <;> rw [h] <;> rfl
abbrev sp_places (K : PySem.W.Frag) (B : Adr) : Sp := spA2 K (fun (v : Nat) (k : Nat) => [D.int (v : Nat), D.int (k : Nat)]) (fun v k => k ≤ 500000) (fun v k => .ok (.str (bs (CodeM.plc v k))))
theorem ok_places (T : Txt K mg B) : Ok P w K mg base CX0 1 "places" ["number", "k"] (sp_places K B) := by
  refine T.d_places.ok sc_places (spA_len fun _ => rfl) (fun f cdv A outer s H vs Q E hr h => ⟨_, (pss_cons (ps_set (i := 2) sc_places.nd rfl (Or.inl rfl) pe_str)
    (pss_cons (ps_for PassesOwn.never rfl (pi_range1 rfl T.n_range (pa_cons (pv 1) pa_nil)) (pg_name (i := 3) sc_places.nd rfl (Or.inl rfl)) (pss_cons (ps_set (i := 2) sc_places.nd rfl (Or.inl rfl) (pe_op (k_add K rfl) (pe_ix (k_ix K rfl) (pe_glob (v := .ref B.BITS) rfl T.c_BITS rfl) (pe_op op_modG (pv 0) pe_int) (fun _ _ => rfl)) (pv 2)))
    (pss_one (ps_set (i := 0) sc_places.nd rfl (Or.inl rfl) (pe_op op_divG (pv 0) pe_int)))))
    (pss_one (ps_ret (pv 2))))), go_fn h fun a W ha => ?_⟩)
  obtain ⟨v, k⟩ := a
  dsimp only at ha
  walk_at "st0"
  refine st_seq (st_asg (d := .str (bs [])) ee_str (by walk_at "lt") ?_)
  walk_at "fr"
  refine st_seq (st_for (α := Unit) (ei_rng1 (by walk_at "ea") (by omega) (by omega)) (fun i _ => [.v (.int ((v / 2 ^ i : Nat) : Int)), .v (.int (k : Nat)), .v (.str (bs (CodeM.plc v i))), .no]) (fun i _ => i ≤ k) ?_ ?_ ?_)
  · exact ⟨(), .keep (by rw [Nat.pow_zero, Nat.div_one]) (.keep rfl (.keep rfl (.keep rfl .nil))), Nat.zero_le _⟩
  · rintro i d - hi -
    have hlt : i < k := by
      have := (List.getElem?_eq_some_iff.mp hi).1
      rw [upto_len] at this; omega
    refine ⟨_, _, eg_name (by walk_at "lt"), ?_⟩
    walk_at "fr"
    refine st_seq (st_asg (ee_op (ee_op (ee_kt (T.k_BITS)) (by walk_at "ev") (rb_ixT (bit_at _))) (ee_var rfl) (rb_addB (by rw [CodeM.plc_len]; simp; omega))) (by walk_at "lt") ?_)
    walk_at "fr"
    refine st_asg (by walk_at "ev") (by walk_at "lt") ?_
    walk_at "fr"
    refine ⟨(), .keep ?_ (.keep rfl (.keep ?_ (.drop .nil))), hlt⟩
    · rw [Nat.div_div_eq_div_mul, ← Nat.pow_succ]
    · rw [plc_cons]; rfl
  · rintro - -
    refine st_ret (ee_var rfl) ?_
    rw [upto_len, Int.toNat_natCast]
theorem kk_bd {c : CodeM} (wf : Wf c) {r : Nat} (h : r ≤ c.rows.length + 16000) : c.kk r ≤ 48008 := by
  have h1 := wf.kl
  have h2 := wf.dl
  unfold CodeM.kk
  rcases Nat.lt_or_ge r c.rows.length with z | z
  · rw [CodeM.row_lt z]
    have := (wf.rb _ (List.getElem_mem z)).2.2
    omega
  · rw [CodeM.row_ge z]
    have : c.d * (r - c.rows.length) ≤ 3 * 16000 := Nat.mul_le_mul h2 (by omega)
    dsimp only
    omega
theorem head_bd {c : CodeM} (wf : Wf c) {r : Nat} (h : r ≤ c.rows.length + 16000) : (c.head r).length ≤ 64004 := by
  have h1 := wf.au
  have h2 := wf.sl
  unfold CodeM.head
  rcases Nat.lt_or_ge r c.rows.length with z | z
  · rw [CodeM.row_lt z]
    have := (wf.rb _ (List.getElem_mem z)).2.1
    omega
  · rw [CodeM.row_ge z]
    have := mul_le4 (show r - c.rows.length ≤ 16000 by omega) h1
    rw [List.length_append, rep_len]
    omega
abbrev sp_bits_of (K : PySem.W.Frag) (B : Adr) : Sp := spA2 K (fun (c : CodeM) (n : Nat) => [codeD B.Code c, D.int (n : Nat)]) (fun c n => Wf c ∧ NOk c n) (fun c n => .ok (.str (bs (c.bits n))))
theorem ok_bits_of (T : Txt K mg B) : Ok P w K mg base CX0 5 "bits_of" ["code", "n"] (sp_bits_of K B) := by
  refine T.d_bits_of.ok sc_bits_of (spA_len fun _ => rfl) (fun f cdv A outer s H vs Q E hr h => ⟨_, (pss_cons (ps_set (i := 2) sc_bits_of.nd rfl (Or.inl rfl) (pe_callH (ok_row_with T) (hr.mono (by first | decide | omega)) rfl pass0 (pa_cons (pv 0) (pa_cons (pv 1) pa_nil))))
    (pss_cons (ps_asg (pe_callH (ok_row_at T) (hr.mono (by first | decide | omega)) rfl pass0 (pa_cons (pv 0) (pa_cons (pv 2) pa_nil))) (k_tup (n := 2) K rfl rfl (pgs_cons (pg_name (i := 3) sc_bits_of.nd rfl (Or.inl rfl)) (pgs_cons (pg_name (i := 4) sc_bits_of.nd rfl (Or.inl rfl)) pgs_nil))))
    (pss_one (ps_ret (pe_op (k_add K rfl) (pv 3) (pe_callH (ok_places T) (hr.mono (by first | decide | omega)) rfl pass0 (pa_cons (pe_op op_subG (pv 1) (pe_callH (ok_first_number T) (hr.mono (by first | decide | omega)) rfl pass0 (pa_cons (pv 0) (pa_cons (pv 2) pa_nil)))) (pa_cons (pv 4) pa_nil)))))))), go_fn h fun a W ha => ?_⟩)
  obtain ⟨c, n⟩ := a
  dsimp only at ha
  obtain ⟨wf, hn1⟩ := ha
  have hrl := wf.rl
  have hrb := row_bd hn1
  have hkb := kk_bd wf hrb
  have hhb := head_bd wf hrb
  have hf := (CodeM.rowOf_ok (c := c) n).1
  walk_at "st0"
  refine st_seq (st_asg (by walk_at "ev") (by walk_at "lt") ?_)
  walk_at "fr"
  refine st_seq (st_asgG (ee_call2 (by walk_at "ea") rfl ⟨wf, by omega⟩ rfl) (by walk_at "un2") ?_)
  walk_at "fr"
  refine st_ret (ee_op (ee_var rfl) (ee_call2 (x := n - c.first (c.rowOf n)) (y := c.kk (c.rowOf n)) (ea_cons (ee_op (ee_var rfl) (ee_call2 (by walk_at "ea") rfl ⟨wf, by omega⟩ rfl) (rb_subN hf)) (ea_cons (ee_var rfl) ea_nil)) rfl (by omega) rfl) (rb_addB ?_)) rfl
  rw [CodeM.plc_len]
  have : (c.row (c.rowOf n)).1 = c.head (c.rowOf n) := rfl
  rw [this]
  omega
abbrev sp_size_of (K : PySem.W.Frag) (B : Adr) : Sp := spA2 K (fun (c : CodeM) (n : Nat) => [codeD B.Code c, D.int (n : Nat)]) (fun c n => Wf c ∧ NOk c n) (fun c n => .ok (.int (c.size n : Nat)))
theorem ok_size_of (T : Txt K mg B) : Ok P w K mg base CX0 5 "size_of" ["code", "n"] (sp_size_of K B) := by
  refine T.d_size_of.ok sc_size_of (spA_len fun _ => rfl) (fun f cdv A outer s H vs Q E hr h => ⟨_, (pss_cons (ps_set (i := 2) sc_size_of.nd rfl (Or.inl rfl) (pe_callH (ok_row_with T) (hr.mono (by first | decide | omega)) rfl pass0 (pa_cons (pv 0) (pa_cons (pv 1) pa_nil))))
    (pss_cons (ps_if (pt_cmpR op_ltG (pv 2) (pe_callB (k_len K rfl) (by rfl) T.n_len (by decide +kernel) (pa_cons (k_fld K rfl (pv 0) rfl) pa_nil)) (nomark _)) (pss_one (ps_ret (pe_op (k_add K rfl) (pe_callB (k_len K rfl) (by rfl) T.n_len (by decide +kernel) (pa_cons (pe_ix (k_ix K rfl) (pe_ix (k_ix K rfl) (k_fld K rfl (pv 0) rfl) (pv 2) (fun _ _ => rfl)) pe_int (fun _ _ => rfl)) pa_nil)) (pe_ix (k_ix K rfl) (pe_ix (k_ix K rfl) (k_fld K rfl (pv 0) rfl) (pv 2) (fun _ _ => rfl)) pe_int (fun _ _ => rfl))))) pss_nil)
    (pss_cons (ps_asg (k_fld K rfl (pv 0) rfl) (k_tup (n := 4) K rfl rfl (pgs_cons (pg_name (i := 3) sc_size_of.nd rfl (Or.inl rfl)) (pgs_cons (pg_name (i := 4) sc_size_of.nd rfl (Or.inl rfl)) (pgs_cons (pg_name (i := 5) sc_size_of.nd rfl (Or.inl rfl)) (pgs_cons (pg_name (i := 6) sc_size_of.nd rfl (Or.inl rfl)) pgs_nil))))))
    (pss_cons (ps_set (i := 7) sc_size_of.nd rfl (Or.inl rfl) (pe_op op_subG (pv 2) (pe_callB (k_len K rfl) (by rfl) T.n_len (by decide +kernel) (pa_cons (k_fld K rfl (pv 0) rfl) pa_nil))))
    (pss_one (ps_ret (pe_op (k_add K rfl) (pe_op (k_add K rfl) (pe_op (k_add K rfl) (pe_op (k_mul K rfl) (pe_callB (k_len K rfl) (by rfl) T.n_len (by decide +kernel) (pa_cons (pv 3) pa_nil)) (pv 7)) (pe_callB (k_len K rfl) (by rfl) T.n_len (by decide +kernel) (pa_cons (pv 4) pa_nil))) (pv 5)) (pe_op (k_mul K rfl) (pv 6) (pv 7))))))))), go_fn h fun a W ha => ?_⟩)
  obtain ⟨c, n⟩ := a
  dsimp only at ha
  obtain ⟨wf, hn1⟩ := ha
  have hrl := wf.rl
  have hrb := row_bd hn1
  have h4 := wf.au
  have h5 := wf.dl
  have h6 := wf.sl
  walk_at "st0"
  refine st_seq (st_asg (by walk_at "ev") (by walk_at "lt") ?_)
  walk_at "fr"
  refine st_seq (st_if (by walk_at "et") (fun hb => ?_) (fun hb => ?_))
  · have hl : c.rowOf n < c.rows.length := by simpa using hb
    have hm := wf.rb _ (List.getElem_mem hl)
    have hg := List.getElem?_eq_getElem hl
    refine st_ret (ee_op (ee_cb (ea_cons (ee_op (ee_op (by walk_at "ev") (ee_var rfl) (rb_ixT (atI_map hg))) ee_int (rb_ixT rfl)) ea_nil) (rc_lenB (l := c.rows[c.rowOf n].1) (by omega))) (ee_op (ee_op (by walk_at "ev") (ee_var rfl) (rb_ixT (atI_map hg))) ee_int (rb_ixT rfl)) rb_addN) ?_
    dsimp only [CodeM.size, CodeM.head, CodeM.kk]
    rw [CodeM.row_lt hl]
  · have hl : c.rows.length ≤ c.rowOf n := by simpa using hb
    refine st_next (st_seq (st_asgG (by walk_at "ev") (by walk_at "un4") ?_))
    walk_at "fr"
    refine st_seq (st_asg (by walk_at "ev") (by walk_at "lt") ?_)
    walk_at "fr"
    refine st_ret (ee_op (ee_op (ee_op (ee_op (by walk_at "ev") (ee_var rfl) (rb_mulNL (by omega))) (by walk_at "ev") rb_addN) (ee_var rfl) rb_addN) (ee_op (ee_var rfl) (ee_var rfl) (rb_mulNL (by omega))) rb_addN) ?_
    dsimp only [CodeM.size, CodeM.head, CodeM.kk]
    rw [CodeM.row_ge hl]
    dsimp only
    rw [List.length_append, rep_len, Nat.mul_comm]
    simp only [Nat.add_assoc]

/-! ### what is looked at -/
mutual
def okD : D → Bool
  | .str s => decide (s.length ≤ 100000)
  | .lst xs => okL xs
  | .tup xs => okL xs
  | .obj _ _ _ => false
  | .ty _ => false
  | .cls _ => false
  | _ => true
def okL : List D → Bool
  | [] => true
  | x :: xs => okD x && okL xs
end
mutual
theorem okD_plain : ∀ {x : D}, okD x = true → plainD x = true
  | .non, _ => rfl
  | .bl _, _ => rfl
  | .int _, _ => rfl
  | .str _, _ => rfl
  | .lst xs, h => okL_plain (xs := xs) h
  | .tup xs, h => okL_plain (xs := xs) h
  | .obj _ _ _, h => nomatch h
  | .ty _, h => nomatch h
  | .cls _, h => nomatch h
theorem okL_plain : ∀ {xs : List D}, okL xs = true → plainL xs = true
  | [], _ => rfl
  | x :: xs, h => by
    unfold okL at h
    unfold plainL
    rw [Bool.and_eq_true] at h ⊢
    exact ⟨okD_plain h.1, okL_plain h.2⟩
end
theorem okL_mem : ∀ {xs : List D}, okL xs = true → ∀ x ∈ xs, okD x = true
  | [], _, _, h => nomatch h
  | x :: xs, h, y, hy => by
    unfold okL at h
    rw [Bool.and_eq_true] at h
    rcases List.mem_cons.mp hy with rfl | hy
    · exact h.1
    · exact okL_mem h.2 y hy
def whD (x : D) (lo hi : Int) : Bool := match x with
  | .int i => decide (lo ≤ i) && decide (i ≤ hi)
  | _ => false
def bitD (x : D) (lo hi : Int) : Bool := match x with
  | .str s => decide (lo ≤ (s.length : Int)) && decide ((s.length : Int) ≤ hi) && s.cps.toList.all fun k => k == 48 || k == 49
  | _ => false
def rwD (x : D) : Bool := match x with
  | .tup [a, b] => bitD a 1 8 && whD b 0 8
  | _ => false
def tlD (x : D) : Bool := match x with
  | .tup [a, b, k, d] => bitD a 1 4 && bitD b 0 4 && whD k 0 8 && whD d 0 3
  | _ => false
def rwsD (x : D) : Bool := match x with
  | .tup xs => decide (xs.length ≤ 6) && xs.all rwD
  | _ => false
theorem str_bits {s : Str} (h : (s.cps.toList.all fun k => k == 48 || k == 49) = true) : ∃ l, s = bs l := by
  refine ⟨s.cps.toList.map (· == 49), str_ext ?_⟩
  rw [bs_cps, List.map_map]
  have : ∀ x ∈ s.cps.toList, (sg ∘ fun k => k == 49) x = x := fun x hx => by
    have := List.all_eq_true.mp h x hx
    rcases Bool.or_eq_true _ _ |>.mp this with q | q
    · rw [beq_iff_eq.mp q]; rfl
    · rw [beq_iff_eq.mp q]; rfl
  rw [List.map_congr_left this, List.map_id']
theorem bits_str (l : List Bool) : ((bs l).cps.toList.all fun k => k == 48 || k == 49) = true := by
  rw [bs_cps, List.all_map]
  exact List.all_eq_true.mpr fun b _ => by cases b <;> rfl
theorem bitD_of {x : D} {lo hi : Nat} (h : bitD x lo hi = true) : ∃ l : List Bool, x = .str (bs l) ∧ lo ≤ l.length ∧ l.length ≤ hi := by
  cases x with
  | str s =>
    unfold bitD at h
    rw [Bool.and_eq_true, Bool.and_eq_true] at h
    obtain ⟨⟨h1, h2⟩, h3⟩ := h
    obtain ⟨l, rfl⟩ := str_bits h3
    rw [bs_len] at h1 h2
    have h1 := of_decide_eq_true h1
    have h2 := of_decide_eq_true h2
    exact ⟨l, rfl, by omega, by omega⟩
  | _ => cases h
theorem bitD_bs {l : List Bool} {lo hi : Nat} (h1 : lo ≤ l.length) (h2 : l.length ≤ hi) : bitD (.str (bs l)) lo hi = true := by
  unfold bitD
  dsimp only
  rw [bits_str, bs_len, decide_eq_true (by omega), decide_eq_true (by omega)]; rfl
theorem whD_of {x : D} {hi : Nat} (h : whD x 0 hi = true) : ∃ n : Nat, x = .int (n : Nat) ∧ n ≤ hi := by
  cases x with
  | int i =>
    unfold whD at h
    rw [Bool.and_eq_true] at h
    have h1 := of_decide_eq_true h.1
    have h2 := of_decide_eq_true h.2
    exact ⟨i.toNat, by congr 1; omega, by omega⟩
  | _ => cases h
theorem whD_nat {n hi : Nat} (h : n ≤ hi) : whD (.int (n : Nat)) 0 hi = true := by
  unfold whD
  dsimp only
  rw [decide_eq_true (by omega), decide_eq_true (by omega)]; rfl
theorem rwD_len {xs : List D} (h : xs.length ≠ 2) : rwD (.tup xs) = false := by
  unfold rwD; split
  · rename_i e; cases e; simp at h
  · rfl
theorem tlD_len {xs : List D} (h : xs.length ≠ 4) : tlD (.tup xs) = false := by
  unfold tlD; split
  · rename_i e; cases e; simp at h
  · rfl
theorem rwD_of {x : D} (h : rwD x = true) : ∃ r : List Bool × Nat, x = rowD r ∧ 1 ≤ r.1.length ∧ r.1.length ≤ 8 ∧ r.2 ≤ 8 := by
  unfold rwD at h
  split at h
  · rw [Bool.and_eq_true] at h
    obtain ⟨l, rfl, h1, h2⟩ := bitD_of (lo := 1) (hi := 8) h.1
    obtain ⟨n, rfl, h3⟩ := whD_of (hi := 8) h.2
    exact ⟨(l, n), rfl, h1, h2, h3⟩
  · cases h
theorem rwD_row {r : List Bool × Nat} (h : 1 ≤ r.1.length ∧ r.1.length ≤ 8 ∧ r.2 ≤ 8) : rwD (rowD r) = true := by
  unfold rwD rowD
  dsimp only
  rw [show bitD (.str (bs r.1)) 1 8 = true from bitD_bs (lo := 1) (hi := 8) h.1 h.2.1, show whD (.int (r.2 : Nat)) 0 8 = true from whD_nat (hi := 8) h.2.2]; rfl
theorem rows_of : ∀ {xs : List D}, xs.all rwD = true → ∃ rs : List (List Bool × Nat), xs = rs.map rowD ∧ ∀ r ∈ rs, 1 ≤ r.1.length ∧ r.1.length ≤ 8 ∧ r.2 ≤ 8
  | [], _ => ⟨[], rfl, fun _ z => nomatch z⟩
  | x :: xs, h => by
    rw [List.all_cons, Bool.and_eq_true] at h
    obtain ⟨r, rfl, h1⟩ := rwD_of h.1
    obtain ⟨rs, rfl, h2⟩ := rows_of h.2
    exact ⟨r :: rs, rfl, fun q hq => by
      rcases List.mem_cons.mp hq with rfl | z
      · exact h1
      · exact h2 q z⟩
/-- what passes is a code -/
theorem code_of {x y : D} (h1 : rwsD x = true) (h2 : tlD y = true) : ∃ c, Wf c ∧ x = rowsD c ∧ y = tailD c := by
  unfold rwsD at h1
  split at h1
  · rw [Bool.and_eq_true] at h1
    obtain ⟨rs, rfl, hr⟩ := rows_of h1.2
    have hl := of_decide_eq_true h1.1
    rw [List.length_map] at hl
    unfold tlD at h2
    split at h2
    · rw [Bool.and_eq_true, Bool.and_eq_true, Bool.and_eq_true] at h2
      obtain ⟨a, rfl, a1, a2⟩ := bitD_of (lo := 1) (hi := 4) h2.1.1.1
      obtain ⟨b, rfl, b1, b2⟩ := bitD_of (lo := 0) (hi := 4) h2.1.1.2
      obtain ⟨k, rfl, k1⟩ := whD_of (hi := 8) h2.1.2
      obtain ⟨d, rfl, d1⟩ := whD_of (hi := 3) h2.2
      exact ⟨⟨rs, a, b, k, d⟩, ⟨hl, hr, a1, a2, b2, k1, d1⟩, rfl, rfl⟩
    · cases h2
  · cases h1
theorem code_rws {c : CodeM} (h : Wf c) : rwsD (rowsD c) = true := by
  unfold rwsD rowsD
  dsimp only
  rw [List.length_map, decide_eq_true h.rl, List.all_map]
  exact List.all_eq_true.mpr fun r hr => rwD_row (h.rb r hr)
theorem code_tl {c : CodeM} (h : Wf c) : tlD (tailD c) = true := by
  unfold tlD tailD
  dsimp only
  rw [show bitD (.str (bs c.again)) 1 4 = true from bitD_bs (lo := 1) (hi := 4) h.al h.au, show bitD (.str (bs c.stop)) 0 4 = true from bitD_bs (lo := 0) (hi := 4) (Nat.zero_le _) h.sl, show whD (.int (c.k : Nat)) 0 8 = true from whD_nat (hi := 8) h.kl, show whD (.int (c.d : Nat)) 0 3 = true from whD_nat (hi := 3) h.dl]; rfl
theorem rowsD_inj {a b : List (List Bool × Nat)} (h : a.map rowD = b.map rowD) : a = b := by
  induction a generalizing b with
  | nil => cases b with
    | nil => rfl
    | cons => cases h
  | cons x a ih => cases b with
    | nil => cases h
    | cons y b =>
      simp only [List.map_cons, List.cons.injEq, D.tup.injEq, D.str.injEq, D.int.injEq, and_true] at h
      obtain ⟨⟨h1, h2⟩, h3⟩ := h
      rw [ih h3, Prod.ext (bs_inj h1) (by omega : x.2 = y.2)]
theorem codeM_inj {a b : CodeM} (h1 : rowsD a = rowsD b) (h2 : tailD a = tailD b) : a = b := by
  have h3 := rowsD_inj (D.tup.inj h1)
  simp only [D.tup.injEq, List.cons.injEq, D.str.injEq, D.int.injEq, and_true] at h2
  obtain ⟨e1, e2, e3, e4⟩ := h2
  cases a; cases b
  dsimp only at *
  rw [h3, bs_inj e1, bs_inj e2, Int.natCast_inj.mp e3, Int.natCast_inj.mp e4]
abbrev sp_is_whole (K : PySem.W.Frag) (B : Adr) : Sp := spA3 K (fun (x : D) (lo hi : Int) => [x, .int lo, .int hi]) (fun x lo hi => okD x = true) (fun x lo hi => .ok (.bl (whD x lo hi)))
theorem ok_is_whole (T : Txt K mg B) : Ok P w K mg base CX0 1 "is_whole" ["thing", "least", "most"] (sp_is_whole K B) := by
  refine T.d_is_whole.ok sc_is_whole (spA_len fun _ => rfl) (fun f cdv A outer s H vs Q E hr h => ⟨_, (pss_one (ps_ret (pe_and (pe_callB (k_isi K rfl) (by rfl) T.n_isinstance (by decide +kernel) (pa_cons (pv 0) (pa_cons (pe_bltn (v := .ty "int") (u := .type "int") rfl T.n_int (by decide +kernel) rfl) pa_nil))) (pe_and (pe_not (pe_callB (k_isi K rfl) (by rfl) T.n_isinstance (by decide +kernel) (pa_cons (pv 0) (pa_cons (pe_bltn (v := .ty "bool") (u := .type "bool") rfl T.n_bool (by decide +kernel) rfl) pa_nil)))) (pe_one (pe_chain op_leG op_leG (pv 1) (pv 0) (pv 2))))))), go_fn h fun a W ha => ?_⟩)
  obtain ⟨x, lo, hi⟩ := a
  dsimp only at ha
  have hp := okD_plain ha
  walk_at "st0"
  have i1 : ∀ {W E} {ds : Fm}, ds[0]? = some (.v x) → Ee ⟨K, none, E, W, fun _ => False⟩ (tCB (rIsi K) (tCons (tVar 0) (tCons (tC (V.ty "int")) tNil))) ds (.bl (isInt x)) := fun h => ee_cb (ea_cons (ee_var h) (ea_cons ee_ty ea_nil)) (rc_isInt hp)
  have i2 : ∀ {W E} {ds : Fm}, ds[0]? = some (.v x) → Ee ⟨K, none, E, W, fun _ => False⟩ (tCB (rIsi K) (tCons (tVar 0) (tCons (tC (V.ty "bool")) tNil))) ds (.bl (isBool x)) := fun h => ee_cb (ea_cons (ee_var h) (ea_cons ee_ty ea_nil)) (rc_isBool hp)
  refine st_ret (d := .bl (whD x lo hi)) ?_ rfl
  cases x with
  | int i => exact ee_and2 (i1 rfl) (ee_and2 (ee_notV (i2 rfl)) (et_chain (ee_var rfl) (ee_var rfl) rb_le (fun _ => ee_var rfl) (fun _ => rb_le)))
  | bl b => exact ee_and2 (i1 rfl) (ee_and0 (ee_notV (i2 rfl)))
  | non => exact ee_and0 (i1 rfl)
  | str s => exact ee_and0 (i1 rfl)
  | lst xs => exact ee_and0 (i1 rfl)
  | tup xs => exact ee_and0 (i1 rfl)
  | obj _ _ _ => cases ha
  | ty _ => cases ha
  | cls _ => cases ha
abbrev sp_are_bits (K : PySem.W.Frag) (B : Adr) : Sp := spA3 K (fun (x : D) (lo hi : Int) => [x, .int lo, .int hi]) (fun x lo hi => okD x = true) (fun x lo hi => .ok (.bl (bitD x lo hi)))
theorem ok_are_bits (T : Txt K mg B) : Ok P w K mg base CX0 1 "are_bits" ["thing", "least", "most"] (sp_are_bits K B) := by
  refine T.d_are_bits.ok sc_are_bits (spA_len fun _ => rfl) (fun f cdv A outer s H vs Q E hr h => ⟨_, (pss_cons (ps_if (PW.pt (pw_or (pt_not (k_tru K rfl (pe_callB (k_isi K rfl) (by rfl) T.n_isinstance (by decide +kernel) (pa_cons (pv 0) (pa_cons (pe_bltn (v := .ty "str") (u := .type "str") rfl T.n_str (by decide +kernel) rfl) pa_nil))))) (pw_or1 (pt_not (pt_chain op_leG op_leG (pv 1) (pe_callB (k_len K rfl) (by rfl) T.n_len (by decide +kernel) (pa_cons (pv 0) pa_nil)) (pv 2)))))) (pss_one (ps_ret pe_bl)) pss_nil)
    (pss_one (ps_ret (pe_callB (k_all K rfl rfl) (by rfl) T.n_all (by decide +kernel) (pa_cons (pe_lc (own := [("sign", 3)]) rfl sc_are_bits.nd (pi_str (pv 0)) (blkOk_by (own := [("sign", 3)]) (N := nm_are_bits) (sc := defScope s_are_bits) (by decide +kernel)) (fun _ _ _ _ _ => (pg_name (i := 3) sc_are_bits.nd rfl (Or.inl rfl))) (fun _ _ _ _ _ => pts_nil) (fun _ _ _ _ _ => (pe_cmpR (k_in K rfl) (pv 3) (pe_glob (v := .ref B.BITS) rfl T.c_BITS rfl) (by rfl)))) pa_nil))))), go_fn h fun a W ha => ?_⟩)
  obtain ⟨x, lo, hi⟩ := a
  dsimp only at ha
  have hp := okD_plain ha
  walk_at "st0"
  have i1 : ∀ {W E} {ds : Fm}, ds[0]? = some (.v x) → Et ⟨K, none, E, W, fun _ => False⟩ (tNot (tTruG K (tCB (rIsi K) (tCons (tVar 0) (tCons (tC (V.ty "str")) tNil))))) ds (!isStr x) := fun h => et_not (et_tb (ee_cb (ea_cons (ee_var h) (ea_cons ee_ty ea_nil)) (rc_isStr hp)))
  have no : isStr x = false → ∀ {W E}, St ⟨K, none, E, W, fun _ => False⟩ (tSeq
      (tIfS
        (tOr (tNot (tTruG K (tCB (rIsi K) (tCons (tVar 0) (tCons (tC (V.ty "str")) tNil)))))
          (tNot (tTest (tChain rLeG rLeG (tVar 1) (tCB (rLenG K) (tCons (tVar 0) tNil)) (tVar 2)))))
        (tRet (tC (V.bl false))) tNext)
      (tRet
        (tCB (rAll K)
          (tCons (tLc (iStr (tVar 0)) (gName 3) tYes (tOp (rInG K) (tVar 3) (tC (V.ref B.BITS))) [3]) tNil))))
    { nx := fun x_1 => Res.ok (D.bl false) = Res.ok D.non,
      rt := fun d => Res.ok (D.bl false) = Res.ok d,
      er := fun C o => Res.ok (D.bl false) = Res.err C o }
    [Sl.v x, Sl.v (D.int lo), Sl.v (D.int hi), Sl.no] := fun h => st_seq (st_if (et_or1 (et_is (i1 rfl) (by rw [h]; rfl))) (fun _ => st_ret ee_bl rfl) (fun z => nomatch z))
  cases x with
  | str s =>
    have hs : s.length ≤ 100000 := of_decide_eq_true ha
    refine st_seq (st_if (et_or2 (i1 rfl) (et_not (et_test (et_chain (ee_var rfl) (ee_cb (by walk_at "ea") (rc_lenS (by omega))) rb_le (fun _ => ee_var rfl) (fun _ => rb_le))))) (fun hb => ?_) (fun hb => ?_))
    · refine st_ret ee_bl ?_
      have hb : (decide (lo ≤ (s.length : Int)) && decide ((s.length : Int) ≤ hi)) = false := by
        cases h : (decide (lo ≤ (s.length : Int)) && decide ((s.length : Int) ≤ hi)) with
        | false => rfl
        | true => rw [h] at hb; cases hb
      show Res.ok (D.bl (_ && _)) = _
      rw [hb]; rfl
    · have hb : (decide (lo ≤ (s.length : Int)) && decide ((s.length : Int) ≤ hi)) = true := by simpa using hb
      refine st_next (st_ret (ee_cb (ea_cons (ee_lcA (ys := s.cps.toList) (gD := fun k => D.str ⟨#[k]⟩) (js := [3]) (ei_str (ee_var rfl)) (fun k => .bl (k == 48 || k == 49)) (by rw [Array.length_toList]; exact Nat.le_trans hs (by decide)) (by decide) (fun i k hk => ?_)) ea_nil) rc_allF) ?_)
      · refine ⟨_, eg_name (by walk_at "lt"), ?_⟩
        have := ee_op (c := ⟨K, none, E, W, fun _ => False⟩) (ds := (wipeD [Sl.v (D.str s), Sl.v (D.int lo), Sl.v (D.int hi), Sl.no] [3]).set 3 (.v (.str ⟨#[k]⟩))) (ta := tVar 3) (tb := tC (V.ref B.BITS)) (ee_var rfl) (ee_kt T.k_BITS) (rb_inS (ys := ["0", "1"]))
        rw [sign_in] at this
        exact this
      · show Res.ok (D.bl (_ && _)) = _
        rw [hb]; rfl
  | int i => exact no rfl
  | bl b => exact no rfl
  | non => exact no rfl
  | lst xs => exact no rfl
  | tup xs => exact no rfl
  | obj _ _ _ => cases ha
  | ty _ => cases ha
  | cls _ => cases ha
abbrev sp_is_row (K : PySem.W.Frag) (B : Adr) : Sp := spA K (fun (x : D) => [x]) (fun x => okD x = true) (fun x => .ok (.bl (rwD x)))
theorem ok_is_row (T : Txt K mg B) : Ok P w K mg base CX0 2 "is_row" ["thing"] (sp_is_row K B) := by
  refine T.d_is_row.ok sc_is_row (spA_len fun _ => rfl) (fun f cdv A outer s H vs Q E hr h => ⟨_, (pss_cons (ps_if (PW.pt (pw_or (pt_not (k_tru K rfl (pe_callB (k_isi K rfl) (by rfl) T.n_isinstance (by decide +kernel) (pa_cons (pv 0) (pa_cons (pe_bltn (v := .ty "tuple") (u := .type "tuple") rfl T.n_tuple (by decide +kernel) rfl) pa_nil))))) (pw_or1 (pt_cmpR (k_ne K rfl hr.units) (pe_callB (k_len K rfl) (by rfl) T.n_len (by decide +kernel) (pa_cons (pv 0) pa_nil)) pe_int (nomark _))))) (pss_one (ps_ret pe_bl)) pss_nil)
    (pss_one (ps_ret (pe_and (pe_callH (ok_are_bits T) (hr.mono (by first | decide | omega)) rfl pass0 (pa_cons (pe_ix (k_ix K rfl) (pv 0) pe_int (fun _ _ => rfl)) (pa_cons pe_int (pa_cons pe_int pa_nil)))) (pe_one (pe_callH (ok_is_whole T) (hr.mono (by first | decide | omega)) rfl pass0 (pa_cons (pe_ix (k_ix K rfl) (pv 0) pe_int (fun _ _ => rfl)) (pa_cons pe_int (pa_cons pe_int pa_nil))))))))), go_fn h fun a W ha => ?_⟩)
  have hp := okD_plain ha
  walk_at "st0"
  have i1 : ∀ {W E} {ds : Fm}, ds[0]? = some (.v a) → Et ⟨K, none, E, W, fun _ => False⟩ (tNot (tTruG K (tCB (rIsi K) (tCons (tVar 0) (tCons (tC (V.ty "tuple")) tNil))))) ds (!Dl.isTup a) := fun h => et_not (et_tb (ee_cb (ea_cons (ee_var h) (ea_cons ee_ty ea_nil)) (rc_isTup hp)))
  cases a with
  | tup xs =>
    have hm := okL_mem (show okL xs = true from ha)
    refine st_seq (st_if (et_or2 (i1 rfl) (et_test (ee_op (ee_cb (by walk_at "ea") rc_lenT) ee_int (rb_neN (b := 2))))) (fun hb => ?_) (fun hb => ?_))
    · refine st_ret ee_bl ?_
      rw [rwD_len (by simpa using hb)]
    · have hl : xs.length = 2 := by simpa using hb
      obtain ⟨x, y, rfl⟩ : ∃ x y, xs = [x, y] := by
        match xs, hl with
        | [x, y], _ => exact ⟨x, y, rfl⟩
      refine st_next (st_ret (ee_andV (ee_call3 (x := x) (y := 1) (z := 8) (ea_cons (ee_op (ee_var rfl) ee_int (rb_ixT rfl)) (by walk_at "ea")) rfl (hm x (by simp)) rfl) (fun _ => ee_call3 (x := y) (y := 0) (z := 8) (ea_cons (ee_op (ee_var rfl) ee_int (rb_ixT rfl)) (by walk_at "ea")) rfl (hm y (by simp)) rfl)) rfl)
  | int i => exact st_seq (st_if (et_or1 (i1 rfl)) (fun _ => st_ret ee_bl rfl) (fun z => nomatch z))
  | bl b => exact st_seq (st_if (et_or1 (i1 rfl)) (fun _ => st_ret ee_bl rfl) (fun z => nomatch z))
  | non => exact st_seq (st_if (et_or1 (i1 rfl)) (fun _ => st_ret ee_bl rfl) (fun z => nomatch z))
  | lst xs => exact st_seq (st_if (et_or1 (i1 rfl)) (fun _ => st_ret ee_bl rfl) (fun z => nomatch z))
  | str s => exact st_seq (st_if (et_or1 (i1 rfl)) (fun _ => st_ret ee_bl rfl) (fun z => nomatch z))
  | obj _ _ _ => cases ha
  | ty _ => cases ha
  | cls _ => cases ha
abbrev sp_is_tail (K : PySem.W.Frag) (B : Adr) : Sp := spA K (fun (x : D) => [x]) (fun x => okD x = true) (fun x => .ok (.bl (tlD x)))
theorem ok_is_tail (T : Txt K mg B) : Ok P w K mg base CX0 2 "is_tail" ["thing"] (sp_is_tail K B) := by
  refine T.d_is_tail.ok sc_is_tail (spA_len fun _ => rfl) (fun f cdv A outer s H vs Q E hr h => ⟨_, (pss_cons (ps_if (PW.pt (pw_or (pt_not (k_tru K rfl (pe_callB (k_isi K rfl) (by rfl) T.n_isinstance (by decide +kernel) (pa_cons (pv 0) (pa_cons (pe_bltn (v := .ty "tuple") (u := .type "tuple") rfl T.n_tuple (by decide +kernel) rfl) pa_nil))))) (pw_or (pt_cmpR (k_ne K rfl hr.units) (pe_callB (k_len K rfl) (by rfl) T.n_len (by decide +kernel) (pa_cons (pv 0) pa_nil)) pe_int (nomark _)) (pw_or (pt_not (k_tru K rfl (pe_callH (ok_are_bits T) (hr.mono (by first | decide | omega)) rfl pass0 (pa_cons (pe_ix (k_ix K rfl) (pv 0) pe_int (fun _ _ => rfl)) (pa_cons pe_int (pa_cons pe_int pa_nil)))))) (pw_or1 (pt_not (k_tru K rfl (pe_callH (ok_are_bits T) (hr.mono (by first | decide | omega)) rfl pass0 (pa_cons (pe_ix (k_ix K rfl) (pv 0) pe_int (fun _ _ => rfl)) (pa_cons pe_int (pa_cons pe_int pa_nil))))))))))) (pss_one (ps_ret pe_bl)) pss_nil)
    (pss_one (ps_ret (pe_and (pe_callH (ok_is_whole T) (hr.mono (by first | decide | omega)) rfl pass0 (pa_cons (pe_ix (k_ix K rfl) (pv 0) pe_int (fun _ _ => rfl)) (pa_cons pe_int (pa_cons pe_int pa_nil)))) (pe_one (pe_callH (ok_is_whole T) (hr.mono (by first | decide | omega)) rfl pass0 (pa_cons (pe_ix (k_ix K rfl) (pv 0) pe_int (fun _ _ => rfl)) (pa_cons pe_int (pa_cons pe_int pa_nil))))))))), go_fn h fun a W ha => ?_⟩)
  have hp := okD_plain ha
  walk_at "st0"
  have i1 : ∀ {W E} {ds : Fm}, ds[0]? = some (.v a) → Et ⟨K, none, E, W, fun _ => False⟩ (tNot (tTruG K (tCB (rIsi K) (tCons (tVar 0) (tCons (tC (V.ty "tuple")) tNil))))) ds (!Dl.isTup a) := fun h => et_not (et_tb (ee_cb (ea_cons (ee_var h) (ea_cons ee_ty ea_nil)) (rc_isTup hp)))
  cases a with
  | tup xs =>
    have hm := okL_mem (show okL xs = true from ha)
    by_cases hl : xs.length = 4
    · obtain ⟨x, y, z, w, rfl⟩ : ∃ x y z w, xs = [x, y, z, w] := by
        match xs, hl with
        | [x, y, z, w], _ => exact ⟨x, y, z, w, rfl⟩
      refine st_seq (st_if (et_or2 (i1 rfl) (et_or2 (et_is (et_test (ee_op (ee_cb (by walk_at "ea") rc_lenT) ee_int (rb_neN (b := 4)))) rfl) (et_or (et_not (et_tb (ee_call3 (x := x) (y := 1) (z := 4) (ea_cons (ee_op (ee_var rfl) ee_int (rb_ixT rfl)) (by walk_at "ea")) rfl (hm x (by simp)) rfl))) (fun _ => et_not (et_tb (ee_call3 (x := y) (y := 0) (z := 4) (ea_cons (ee_op (ee_var rfl) ee_int (rb_ixT rfl)) (by walk_at "ea")) rfl (hm y (by simp)) rfl)))))) (fun hb => ?_) (fun hb => ?_))
      · refine st_ret ee_bl ?_
        show Res.ok (D.bl (bitD x 1 4 && bitD y 0 4 && whD z 0 8 && whD w 0 3)) = _
        have : (bitD x 1 4 && bitD y 0 4) = false := by
          cases h1 : bitD x 1 4 <;> cases h2 : bitD y 0 4 <;> simp [h1, h2] at hb ⊢
        rw [this]; rfl
      · refine st_next (st_ret (ee_andV (ee_call3 (x := z) (y := 0) (z := 8) (ea_cons (ee_op (ee_var rfl) ee_int (rb_ixT rfl)) (by walk_at "ea")) rfl (hm z (by simp)) rfl) (fun _ => ee_call3 (x := w) (y := 0) (z := 3) (ea_cons (ee_op (ee_var rfl) ee_int (rb_ixT rfl)) (by walk_at "ea")) rfl (hm w (by simp)) rfl)) ?_)
        show Res.ok (D.bl (bitD x 1 4 && bitD y 0 4 && whD z 0 8 && whD w 0 3)) = _
        have : (bitD x 1 4 && bitD y 0 4) = true := by
          cases h1 : bitD x 1 4 <;> cases h2 : bitD y 0 4 <;> simp [h1, h2] at hb ⊢
        rw [this]; rfl
    · refine st_seq (st_if (et_or2 (i1 rfl) (et_or1 (et_is (et_test (ee_op (ee_cb (by walk_at "ea") rc_lenT) ee_int (rb_neN (b := 4)))) (by simpa using hl)))) (fun hb => ?_) (fun z => nomatch z))
      refine st_ret ee_bl ?_
      rw [tlD_len hl]
  | int i => exact st_seq (st_if (et_or1 (i1 rfl)) (fun _ => st_ret ee_bl rfl) (fun z => nomatch z))
  | bl b => exact st_seq (st_if (et_or1 (i1 rfl)) (fun _ => st_ret ee_bl rfl) (fun z => nomatch z))
  | non => exact st_seq (st_if (et_or1 (i1 rfl)) (fun _ => st_ret ee_bl rfl) (fun z => nomatch z))
  | lst xs => exact st_seq (st_if (et_or1 (i1 rfl)) (fun _ => st_ret ee_bl rfl) (fun z => nomatch z))
  | str s => exact st_seq (st_if (et_or1 (i1 rfl)) (fun _ => st_ret ee_bl rfl) (fun z => nomatch z))
  | obj _ _ _ => cases ha
  | ty _ => cases ha
  | cls _ => cases ha
open Classical in
noncomputable def mkC (B : Adr) (p : D × D) : Mkr := if h : ∃ c, Wf c ∧ p.1 = rowsD c ∧ p.2 = tailD c then .ok ["rows", "tail", "begin"] [p.1, p.2, .int ((choose h).beg : Nat)] else .err B.BadCode
theorem mkC_ok {B : Adr} {c : CodeM} (h : Wf c) : mkC B (rowsD c, tailD c) = .ok ["rows", "tail", "begin"] [rowsD c, tailD c, .int (c.beg : Nat)] := by
  have hx : ∃ c', Wf c' ∧ (rowsD c, tailD c).1 = rowsD c' ∧ (rowsD c, tailD c).2 = tailD c' := ⟨c, h, rfl, rfl⟩
  have e := Classical.choose_spec hx
  have e2 : c = Classical.choose hx := codeM_inj e.2.1 e.2.2
  unfold mkC
  rw [dif_pos hx]
  dsimp only
  rw [← e2]
theorem mkC_no {B : Adr} {x y : D} (h : (rwsD x && tlD y) = false) : mkC B (x, y) = .err B.BadCode := by
  unfold mkC
  rw [dif_neg]
  rintro ⟨c, wf, h1, h2⟩
  dsimp only at h1 h2
  rw [h1, h2, code_rws wf, code_tl wf] at h
  cases h
abbrev sp_Code_init (K : PySem.W.Frag) (B : Adr) : Sp := spI K B.Code (fun p : D × D => [p.1, p.2]) (fun p => okD p.1 = true ∧ okD p.2 = true) (mkC B)
theorem ok_Code_init (T : Txt K mg B) : OkI P w K mg base (L2.CX P w) 3 B.Code ["self", "rows", "tail"] (sp_Code_init K B) := by
  refine T.d_Code_init.okX sc_Code_init ?len (fun f cdv A outer s H vs Q E hr h => ⟨_, (pss_cons (ps_if (PW.pt (pw_or (pt_not (k_tru K rfl (pe_callB (k_isi K rfl) (by rfl) T.n_isinstance (by decide +kernel) (pa_cons (pv 1) (pa_cons (pe_bltn (v := .ty "tuple") (u := .type "tuple") rfl T.n_tuple (by decide +kernel) rfl) pa_nil))))) (pw_or (pt_cmpR op_gtG (pe_callB (k_len K rfl) (by rfl) T.n_len (by decide +kernel) (pa_cons (pv 1) pa_nil)) (pe_glob (v := .int 6) rfl T.c_MOST_ROWS.choose_spec ⟨_, rfl⟩) (nomark _)) (pw_or1 (pt_not (k_tru K rfl (pe_callB (k_all K rfl rfl) (by rfl) T.n_all (by decide +kernel) (pa_cons (pe_lc (own := [("row", 3)]) rfl sc_Code_init.nd (k_itup K rfl (pv 1)) (blkOk_by (own := [("row", 3)]) (N := nm_Code_init) (sc := defScope s_Code_init) (by decide +kernel)) (fun _ _ _ _ _ => (pg_name (i := 3) sc_Code_init.nd rfl (Or.inl rfl))) (fun _ _ _ _ _ => pts_nil) (fun _ _ _ _ _ => (pe_callH (ok_is_row T) (hr.mono (by first | decide | omega)) rfl pass0 (pa_cons (pv 3) pa_nil)))) pa_nil)))))))) (pss_one (ps_raise0 rfl (takes_of rfl rfl rfl rfl) T.e_BadCode rfl)) pss_nil)
    (pss_cons (ps_if (pt_not (k_tru K rfl (pe_callH (ok_is_tail T) (hr.mono (by first | decide | omega)) rfl pass0 (pa_cons (pv 2) pa_nil)))) (pss_one (ps_raise0 rfl (takes_of rfl rfl rfl rfl) T.e_BadCode rfl)) pss_nil)
    (pss_cons (k_sfld K rfl (pv 0) (pv 1) rfl)
    (pss_cons (k_sfld K rfl (pv 0) (pv 2) rfl)
    (pss_one (k_sfld K rfl (pv 0) (pe_callB (k_sum K rfl rfl) (by rfl) T.n_sum (by decide +kernel) (pa_cons (pe_lc (own := [("row", 3)]) rfl sc_Code_init.nd (k_itup K rfl (pv 1)) (blkOk_by (own := [("row", 3)]) (N := nm_Code_init) (sc := defScope s_Code_init) (by decide +kernel)) (fun _ _ _ _ _ => (pg_name (i := 3) sc_Code_init.nd rfl (Or.inl rfl))) (fun _ _ _ _ _ => pts_nil) (fun _ _ _ _ _ => (pe_callH (ok_power T) (hr.mono (by first | decide | omega)) rfl pass0 (pa_cons (pe_ix (k_ix K rfl) (pv 3) pe_int (fun _ _ => rfl)) pa_nil)))) pa_nil)) rfl)))))), ?_⟩)
  case len => exact spI_len fun _ => rfl
  refine go_init h (fun a W M p dx ha => ?_) (by decide)
  obtain ⟨x, y⟩ := a
  dsimp only at ha
  obtain ⟨hx, hy⟩ := ha
  have hp := okD_plain hx
  walk_at "st0"
  have i1 : ∀ {W E} {ds : Fm}, ds[1]? = some (.v x) → Et ⟨K, none, E, W, M⟩ (tNot (tTruG K (tCB (rIsi K) (tCons (tVar 1) (tCons (tC (V.ty "tuple")) tNil))))) ds (!Dl.isTup x) := fun h => et_not (et_tb (ee_cb (ea_cons (ee_var h) (ea_cons ee_ty ea_nil)) (rc_isTup hp)))
  have t1 : Et ⟨K, none, E, W, M⟩ (tOr (tNot (tTruG K (tCB (rIsi K) (tCons (tVar 1) (tCons (tC (V.ty "tuple")) tNil)))))
          (tOr (tTest (tOp rGtG (tCB (rLenG K) (tCons (tVar 1) tNil)) (tC (V.int 6))))
            (tNot
              (tTruG K
                (tCB (rAll K)
                  (tCons (tLc (iTup K (tVar 1)) (gName 3) tYes (tCall (sp_is_row K B) [] E0 (tCons (tVar 3) tNil)) [3])
                    tNil)))))) [Sl.self p dx B.Code [] [], Sl.v x, Sl.v y, Sl.no] (!rwsD x) := by
    cases x with
    | tup xs =>
      have hm := okL_mem (show okL xs = true from hx)
      by_cases hl : xs.length ≤ 6
      · refine et_or2 (i1 rfl) (et_is (et_or2 (et_is (et_test (ee_op (ee_cb (by walk_at "ea") rc_lenT) ee_int (rb_gtN (b := 6)))) (by simpa using hl)) (et_not (et_tb (ee_cb (ea_cons (ee_lcM (f := fun d => .bl (rwD d)) (js := [3]) (ei_tup (ee_var rfl)) (by omega) (by decide) (fun i d hd => ⟨_, eg_name (by walk_at "lt"), ee_call (a := d) (ea_cons (ee_var rfl) ea_nil) rfl (hm d (List.mem_of_getElem? hd)) rfl⟩)) ea_nil) rc_allF)))) ?_)
        show (!xs.all rwD) = !(decide (xs.length ≤ 6) && xs.all rwD)
        rw [decide_eq_true hl, Bool.true_and]
      · refine et_or2 (i1 rfl) (et_is (et_or1 (et_is (et_test (ee_op (ee_cb (by walk_at "ea") rc_lenT) ee_int (rb_gtN (b := 6)))) (decide_eq_true (by omega)))) ?_)
        show true = !(decide (xs.length ≤ 6) && xs.all rwD)
        rw [decide_eq_false hl]; rfl
    | int i => exact et_or1 (i1 rfl)
    | bl b => exact et_or1 (i1 rfl)
    | non => exact et_or1 (i1 rfl)
    | lst xs => exact et_or1 (i1 rfl)
    | str s => exact et_or1 (i1 rfl)
    | obj _ _ _ => cases hx
    | ty _ => cases hx
    | cls _ => cases hx
  refine st_seq (st_if t1 (fun hb => st_raise0 ⟨_, rfl, rfl, mkC_no (by have h : rwsD x = false := by simpa using hb
                                                                        rw [h]; rfl)⟩) (fun hb => st_next ?_))
  have hb : rwsD x = true := by simpa using hb
  refine st_seq (st_if (et_not (et_tb (ee_call (a := y) (ea_cons (ee_var rfl) ea_nil) rfl hy rfl))) (fun h2 => ?_) (fun h2 => st_next ?_))
  · have h2 : tlD y = false := by simpa using h2
    exact st_raise0 ⟨_, rfl, rfl, mkC_no (by rw [h2, Bool.and_false])⟩
  have h2 : tlD y = true := by simpa using h2
  obtain ⟨c, wf, rfl, rfl⟩ := code_of hb h2
  rw [mkC_ok wf]
  refine st_seq (st_put rfl (ee_var rfl) T.cl_Code T.na_Code_rows (by decide) (by decide) ?_)
  walk_at "fr"
  refine st_seq (st_put rfl (ee_var rfl) T.cl_Code T.na_Code_tail (by decide) (by decide) ?_)
  walk_at "fr"
  refine st_put (d := .int (c.beg : Nat)) rfl (ee_cb (ea_cons (ee_lcA (ys := c.rows) (gD := rowD) (js := [3]) (ei_tup (ee_var rfl)) (fun x => .int ((2 ^ x.2 : Nat) : Int)) (by have := wf.rl; omega) (by decide) (fun i r hr => ?_)) ea_nil) rc_sumN) T.cl_Code T.na_Code_begin (by decide) (by decide) ⟨_, _, rfl, rfl⟩
  have := (wf.rb r (List.mem_of_getElem? hr)).2.2
  exact ⟨_, eg_name (by walk_at "lt"), ee_call (a := r.2) (ea_cons (ee_op (ee_var rfl) ee_int (rb_ixT rfl)) ea_nil) rfl (by omega) rfl⟩
theorem shL_map {α : Type} {f : α → D} {n : Nat} {xs : List α} (h : ∀ x ∈ xs, shD n (f x) = true) : shL n (xs.map f) = true := by
  induction xs with
  | nil => rfl
  | cons x xs ih =>
    rw [List.map_cons]
    unfold shL
    rw [h x List.mem_cons_self, ih fun y hy => h y (List.mem_cons_of_mem _ hy)]; rfl
theorem nbL_map {α : Type} {f : α → D} {xs : List α} (h : ∀ x ∈ xs, nbD (f x) = true) : nbL (xs.map f) = true := by
  induction xs with
  | nil => rfl
  | cons x xs ih =>
    rw [List.map_cons]
    unfold nbL
    rw [h x List.mem_cons_self, ih fun y hy => h y (List.mem_cons_of_mem _ hy)]; rfl
theorem sh_bs {n : Nat} {l : List Bool} : shD n (.str (bs l)) = true := by cases n <;> exact bs_sh l
theorem sh_row {r : List Bool × Nat} : shD 1 (rowD r) = true := by
  show shL 0 _ = true
  unfold shL
  rw [sh_bs]; rfl
theorem sh_code {c : CodeM} : shD 3 (.tup [rowsD c, tailD c]) = true := by
  show shL 2 _ = true
  unfold shL
  have h1 : shD 2 (rowsD c) = true := shL_map fun r _ => sh_row
  have h2 : shL 2 [tailD c] = true := by
    unfold shL
    have : shD 2 (tailD c) = true := by
      show shL 1 _ = true
      unfold shL
      rw [sh_bs]
      unfold shL
      rw [sh_bs]; rfl
    rw [this]; rfl
  rw [h1, h2]; rfl
theorem nb_code {c : CodeM} : nbD (.tup [rowsD c, tailD c]) = true := by
  show nbL _ = true
  unfold nbL
  have h1 : nbD (rowsD c) = true := nbL_map fun r _ => rfl
  rw [h1]; rfl
open Classical in
noncomputable def eqC (C : Addr) (c : CodeM) (y : D) : Bool := decide (y = codeD C c)
theorem code_tup {a b : CodeM} : D.tup [rowsD a, tailD a] = .tup [rowsD b, tailD b] ↔ a = b := by
  constructor
  · intro h
    have h' := D.tup.inj h
    simp only [List.cons.injEq, and_true] at h'
    exact codeM_inj h'.1 h'.2
  · rintro rfl; rfl
theorem codeD_inj {C : Addr} {a b : CodeM} : codeD C b = codeD C a ↔ a = b := by
  constructor
  · intro h
    have h' := (D.obj.inj h).2.2
    simp only [List.cons.injEq] at h'
    exact codeM_inj h'.1.symm h'.2.1.symm
  · rintro rfl; rfl
abbrev sp_Code_eq (K : PySem.W.Frag) (B : Adr) : Sp := spA K (fun p : CodeM × D => [codeD B.Code p.1, p.2]) (fun p => (∃ c2, p.2 = codeD B.Code c2) ∨ ∃ ys, p.2 = .lst ys) (fun p => .ok (.bl (eqC B.Code p.1 p.2)))
abbrev sp_Code_row (K : PySem.W.Frag) (B : Adr) : Sp := sp_row_at K B
abbrev sp_Code_first_of (K : PySem.W.Frag) (B : Adr) : Sp := sp_first_number K B
abbrev sp_Code_row_of (K : PySem.W.Frag) (B : Adr) : Sp := sp_row_with K B
abbrev sp_Code_bits (K : PySem.W.Frag) (B : Adr) : Sp := sp_bits_of K B
theorem ok_Code_bits (T : Txt K mg B) : OkM P w K mg base CX0 6 B.Code "bits" ["self", "n"] (sp_Code_bits K B) := by
  refine T.d_Code_bits.ok sc_Code_bits (spA_len fun _ => rfl) (fun f cdv A outer s H vs Q E hr h => ⟨_, (pss_one (ps_ret (pe_callH (ok_bits_of T) (hr.mono (by first | decide | omega)) rfl pass0 (pa_cons (pv 0) (pa_cons (pv 1) pa_nil))))), go_fn h fun a W ha => ?_⟩)
  obtain ⟨c, n⟩ := a
  dsimp only at ha
  walk_at "st0"
  exact st_ret (ee_call2 (by walk_at "ea") rfl ha rfl) rfl
abbrev sp_Code_size (K : PySem.W.Frag) (B : Adr) : Sp := sp_size_of K B
theorem ok_Code_size (T : Txt K mg B) : OkM P w K mg base CX0 6 B.Code "size" ["self", "n"] (sp_Code_size K B) := by
  refine T.d_Code_size.ok sc_Code_size (spA_len fun _ => rfl) (fun f cdv A outer s H vs Q E hr h => ⟨_, (pss_one (ps_ret (pe_callH (ok_size_of T) (hr.mono (by first | decide | omega)) rfl pass0 (pa_cons (pv 0) (pa_cons (pv 1) pa_nil))))), go_fn h fun a W ha => ?_⟩)
  obtain ⟨c, n⟩ := a
  dsimp only at ha
  walk_at "st0"
  exact st_ret (ee_call2 (by walk_at "ea") rfl ha rfl) rfl

--@@part
/-! ### the law's draws -/
abbrev sp_l_begin (K : PySem.W.Frag) (B : Adr) : Sp := fun vs H Q E => ∃ (s : Addr) (ns : List Int), vs = [.ref s] ∧ SqL K H s (ns.map V.int) ∧ ns.length ≤ 63 ∧ ∀ b a H1, H b = none → H a = none → Ex H H1 → DrawsOk H1 b a → Q (.ref b) H1
theorem ok_l_begin (T : Txt K mg B) : Ok P w K mg base CX0 1 "_law_begin" ["_law_script"] (sp_l_begin K B) := by
  refine T.d_l_begin.ok sc_l_begin ?len (fun f cdv A outer s H vs Q E hr h => ⟨_, (pss_one (ps_ret (pe_lst (pa_cons (pe_callTy (k_list K rfl) (by rfl) T.n_list (by decide +kernel) (pa_cons (pv 0) pa_nil)) (pa_cons pe_int (pa_cons pe_int (pa_cons pe_int pa_nil))))))), ?_⟩)
  case len => rintro vs H Q E ⟨s, ns, rfl, _⟩; rfl
  obtain ⟨s, ns, rfl, hs, hz, k⟩ := h
  refine ⟨_, rfl, s, ns.map V.int, rfl, .inl hs, fun a ha => ⟨by show 4 ≤ sizeLine; decide, fun b hb => ?_⟩⟩
  have nab : b ≠ a := fun z => by rw [z, upd_same] at hb; cases hb
  have hb' : H b = none := by rw [upd_ne nab] at hb; exact hb
  refine k b a _ hb' ha ((Ex.new ha).trans (Ex.new hb)) ⟨ns, 0, 0, 7, upd_same, ?_, nab.symm, by decide, by decide, by decide, by decide⟩
  rw [upd_ne nab.symm, upd_same]
structure DI (H0 : Hp) (b a : Addr) (ns : List Int) (i j s : Int) (H : Hp) : Prop where
  hb : H b = some (.lst [.ref a, .int i, .int j, .int s])
  ha : H a = some (.lst (ns.map V.int))
  ne : a ≠ b
  i0 : 0 ≤ i
  j0 : 0 ≤ j
  s0 : 0 ≤ s
  s1 : s < 2147483647
  keep : ∀ x o, x ≠ b → H0 x = some o → H x = some o
  there : ∀ x, H0 x ≠ none → H x ≠ none
section
variable {H0 H H1 : Hp} {b a : Addr} {ns : List Int} {i j s i' j' s' : Int}
theorem DI.go (d : DI H0 b a ns i j s H) (e : Ex H H1) : DI H0 b a ns i j s H1 :=
  ⟨e _ _ d.hb, e _ _ d.ha, d.ne, d.i0, d.j0, d.s0, d.s1, fun x o h q => e _ _ (d.keep x o h q), fun x q => by
    cases z : H x with
    | none => exact absurd z (d.there x q)
    | some o => rw [e _ _ z]; simp⟩
theorem DI.set (d : DI H0 b a ns i j s H) (h1 : 0 ≤ i') (h2 : 0 ≤ j') (h3 : 0 ≤ s') (h4 : s' < 2147483647) : DI H0 b a ns i' j' s' (upd H b (.lst [.ref a, .int i', .int j', .int s'])) :=
  ⟨upd_same, by rw [upd_ne d.ne]; exact d.ha, d.ne, h1, h2, h3, h4, fun x o h q => by rw [upd_ne h]; exact d.keep x o h q, fun x q => by
    by_cases z : x = b
    · subst z; rw [upd_same]; simp
    · rw [upd_ne z]; exact d.there x q⟩
inductive SlI : Option V → Sl → Prop where
  | no (x : Option V) : SlI x .no
  | int (z : Int) : SlI (some (.int z)) (.v (.int z))
abbrev dc (K : PySem.W.Frag) : Ctx := ⟨K, none, E0, fun _ => False, fun _ => False⟩
abbrev dF (ns : List Int) (i j s n : Int) (s2 s3 : Sl) : Fm := [.v (.lst [.lst (ns.map D.int), .int i, .int j, .int s]), .v (.int n), s2, s3]
theorem DI.at {n : Int} {x2 x3 : Option V} {s2 s3 : Sl} (d : DI H0 b a ns i j s H) (h2 : SlI x2 s2) (h3 : SlI x3 s3) : At (dc K) H H [some (.ref b), some (.int n), x2, x3] (dF ns i j s n s2 s3) := by
  refine ⟨Ex.refl _, ⟨rfl, fun k q e => ?_, fun k k' y xs ys _ e1 _ _ => ?_⟩, fun _ _ z => (nomatch z), fun _ z => z.elim⟩
  · match k, e with
    | 0, e => cases e; exact ⟨_, rfl, .lst d.hb (.cons (.lst d.ha (.of_ints ns)) (.cons (.int _) (.cons (.int _) (.cons (.int _) .nil))))⟩
    | 1, e => cases e; exact ⟨_, rfl, .int _⟩
    | 2, e => cases e; cases h2 with
      | no => trivial
      | int z => exact ⟨_, rfl, .int _⟩
    | 3, e => cases e; cases h3 with
      | no => trivial
      | int z => exact ⟨_, rfl, .int _⟩
    | k + 4, e => simp at e
  · match k, e1 with
    | 2, e1 => cases e1; cases h2
    | 3, e1 => cases e1; cases h3
    | k + 4, e1 => simp at e1
/-- values of it, stores into it, tests -/
theorem d_asg {te : TE} {z : D} {ds : Fm} {σ : L2.St} {E : Ends} {m : Nat} {u : TS} (at' : At (dc K) H H σ ds) (h : Ee (dc K) te ds z) (k : ∀ v H1, Ex H H1 → Rep K H1 v z → u E (σ.set m (some v)) H1) : tSeq (tAsg te (gName m)) u E σ H :=
  h H H σ at' _ fun v G1 H1 e s r => k v H1 e.ex (r.mono s)
theorem d_ret {te : TE} {z : D} {ds : Fm} {σ : L2.St} {E : Ends} (at' : At (dc K) H H σ ds) (h : Ee (dc K) te ds z) (k : ∀ v H1, Ex H H1 → Rep K H1 v z → E.rt v H1) : tRet te E σ H :=
  h H H σ at' _ fun v G1 H1 e s r => k v H1 e.ex (r.mono s)
theorem d_if {tc : TT} {t1 t2 : TS} {c : Bool} {ds : Fm} {σ : L2.St} {E : Ends} (at' : At (dc K) H H σ ds) (h : Et (dc K) tc ds c) (h1 : c = true → ∀ H1, Ex H H1 → t1 E σ H1) (h2 : c = false → ∀ H1, Ex H H1 → t2 E σ H1) : tIfS tc t1 t2 E σ H :=
  h H H σ at' _ fun G1 H1 e s => by
    cases c with
    | true => exact h1 rfl H1 e.ex
    | false => exact h2 rfl H1 e.ex
theorem d_ifS {tc : TT} {t1 t2 u : TS} {c : Bool} {ds : Fm} {σ : L2.St} {E : Ends} (at' : At (dc K) H H σ ds) (h : Et (dc K) tc ds c) (h1 : c = true → ∀ H1, Ex H H1 → t1 { E with nx := u E } σ H1) (h2 : c = false → ∀ H1, Ex H H1 → t2 { E with nx := u E } σ H1) : tSeq (tIfS tc t1 t2) u E σ H :=
  d_if (E := { E with nx := u E }) at' h h1 h2
theorem d_nxt {u : TS} {σ : L2.St} {E : Ends} (h : u E σ H) : tNext { E with nx := u E } σ H := h
theorem d_set {te : TE} {ds : Fm} {σ : L2.St} {E : Ends} {k : Int} {m : Nat} {z : Int} (d : DI H0 b a ns i j s H) (at' : At (dc K) H H σ ds) (h0 : σ[0]? = some (some (.ref b))) (h : Ee (dc K) te ds (.int z)) (hk : ixN 4 k = some m)
    (q : ∀ H1, DI H0 b a ns i j s H1 → E.nx σ (upd H1 b (.lst (([.ref a, .int i, .int j, .int s] : List V).set m (.int z))))) : tAsg te (gSub (tVar 0) (tC (.int k)) rSetL) E σ H :=
  h H H σ at' _ fun v G1 H1 e s r => by
    cases r
    exact ⟨_, h0, b, _, k, m, rfl, rfl, (d.go e.ex).hb, hk, q H1 (d.go e.ex)⟩
theorem d_setS {te : TE} {ds : Fm} {σ : L2.St} {E : Ends} {u : TS} {k : Int} {m : Nat} {z : Int} (d : DI H0 b a ns i j s H) (at' : At (dc K) H H σ ds) (h0 : σ[0]? = some (some (.ref b))) (h : Ee (dc K) te ds (.int z)) (hk : ixN 4 k = some m)
    (q : ∀ H1, DI H0 b a ns i j s H1 → u E σ (upd H1 b (.lst (([.ref a, .int i, .int j, .int s] : List V).set m (.int z))))) : tSeq (tAsg te (gSub (tVar 0) (tC (.int k)) rSetL)) u E σ H :=
  d_set (E := { E with nx := u E }) d at' h0 h hk q
end
theorem mod_bd (x : Int) : 0 ≤ x % 2147483647 ∧ x % 2147483647 < 2147483647 := ⟨Int.emod_nonneg _ (by decide), Int.emod_lt_of_pos _ (by decide)⟩
abbrev sp_l_draw (K : PySem.W.Frag) (B : Adr) : Sp := spD K (fun n : Int => [D.int n]) (fun n => 0 < n ∧ n ≤ 1000000) (fun n d => ∃ r : Int, d = .int r ∧ 0 ≤ r ∧ r < n)
theorem ok_l_draw (T : Txt K mg B) : Ok P w K mg base CX0 1 "_law_draw" ["_law_draws", "_law_size"] (sp_l_draw K B) := by
  refine T.d_l_draw.ok sc_l_draw ?len (fun f cdv A outer s H vs Q E hr h => ⟨_, (pss_cons (ps_if (pt_cmpR (k_eq K rfl hr.units) (pe_ix (k_ix K rfl) (pv 0) pe_int (fun _ _ => rfl)) pe_int (nomark _)) (pss_one (ps_if (pt_cmpR op_ltG (pe_ix (k_ix K rfl) (pv 0) pe_int (fun _ _ => rfl)) (pe_callB (k_len K rfl) (by rfl) T.n_len (by decide +kernel) (pa_cons (pe_ix (k_ix K rfl) (pv 0) pe_int (fun _ _ => rfl)) pa_nil)) (nomark _)) (pss_cons (ps_set (i := 2) sc_l_draw.nd rfl (Or.inl rfl) (pe_ix (k_ix K rfl) (pe_ix (k_ix K rfl) (pv 0) pe_int (fun _ _ => rfl)) (pe_ix (k_ix K rfl) (pv 0) pe_int (fun _ _ => rfl)) (fun _ _ => rfl)))
    (pss_cons (ps_asg (pe_op (k_add K rfl) (pe_ix (k_ix K rfl) (pv 0) pe_int (fun _ _ => rfl)) pe_int) (pg_sub (pv 0) pe_int set_list))
    (pss_one (ps_if (pt_cmpR op_geG (pv 2) (pe_op op_powG pe_int pe_int) (nomark _)) (pss_one (ps_asg (pv 2) (pg_sub (pv 0) pe_int set_list))) (pss_one (ps_asg (pe_op op_modG (pe_callTy call_intG (by rfl) T.n_int (by decide +kernel) (pa_cons (pe_op (k_add K rfl) (pe_op (k_add K rfl) (pe_op (k_mul K rfl) (pe_ix (k_ix K rfl) (pv 0) pe_int (fun _ _ => rfl)) pe_int) (pe_op (k_mul K rfl) (pv 2) pe_int)) pe_int) pa_nil)) pe_int) (pg_sub (pv 0) pe_int set_list))))))) (pss_one (ps_asg (pe_op op_modG (pe_callTy call_intG (by rfl) T.n_int (by decide +kernel) (pa_cons (pe_op (k_add K rfl) (pe_op (k_mul K rfl) (pe_ix (k_ix K rfl) (pv 0) pe_int (fun _ _ => rfl)) pe_int) pe_int) pa_nil)) pe_int) (pg_sub (pv 0) pe_int set_list))))) pss_nil)
    (pss_cons (ps_if (pt_cmpR op_gtG (pe_ix (k_ix K rfl) (pv 0) pe_int (fun _ _ => rfl)) pe_int (nomark _)) (pss_cons (ps_set (i := 3) sc_l_draw.nd rfl (Or.inl rfl) (pe_op op_modG (pe_callTy call_intG (by rfl) T.n_int (by decide +kernel) (pa_cons (pe_ix (k_ix K rfl) (pv 0) pe_int (fun _ _ => rfl)) pa_nil)) (pv 1)))
    (pss_cons (ps_asg (pe_op op_divG (pe_ix (k_ix K rfl) (pv 0) pe_int (fun _ _ => rfl)) (pv 1)) (pg_sub (pv 0) pe_int set_list))
    (pss_one (ps_ret (pv 3))))) pss_nil)
    (pss_one (ps_ret (pe_op op_modG (pe_op op_modG (pe_callTy call_intG (by rfl) T.n_int (by decide +kernel) (pa_cons (pe_op (k_mul K rfl) (pe_ix (k_ix K rfl) (pv 0) pe_int (fun _ _ => rfl)) pe_int) pa_nil)) pe_int) (pv 1)))))), ?_⟩)
  case len => exact spD_len fun _ => rfl
  obtain ⟨G, n, b, a, us, sb, rfl, rs, ⟨hn, hn2⟩, gb, ⟨ns, i, j, s', hb, ha, ne, i0, j0, s0, s1⟩, k⟩ := h
  cases rs with | cons r1 r2 =>
  cases r2
  cases r1
  have d0 : DI H b a ns i j s' H := ⟨hb, ha, ne, i0, j0, s0, s1, fun _ _ _ q => q, fun _ q => q⟩
  have gn : G b = none := gb
  -- a number below n comes out
  have fin : ∀ {i j s' r : Int} {H1 : Hp}, DI H b a ns i j s' H1 → 0 ≤ r → r < n → Q (.int r) H1 := fun {i j s' r H1} d h0 h1 => by
    refine k (.int r) ⟨r, rfl, h0, h1⟩ _ G H1 ⟨Ex.refl _, fun x o hx q => d.keep x o (fun z => hx a (by rw [z])) q, fun _ _ q => q, d.there, fun x y hxy _ => ?_⟩ (fun x o q => ?_) (.int r)
    · cases hxy
      exact ⟨ns, i, j, s', d.hb, d.ha, d.ne, d.i0, d.j0, d.s0, d.s1⟩
    · exact d.keep x o (fun z => by rw [z, gn] at q; cases q) (sb x o q)
  -- the second half, from any state
  have half : ∀ (i j s' : Int) (x2 : Option V) (H1 : Hp), DI H b a ns i j s' H1 →
      tSeq (tIfS (tTest (tOp rGtG (tOp (rIxG K) (tVar 0) (tC (.int 2))) (tC (.int 0))))
        (tSeq (tAsg (tOp rModG (tCB rIntG (tCons (tOp (rIxG K) (tVar 0) (tC (.int 2))) tNil)) (tVar 1)) (gName 3))
          (tSeq (tAsg (tOp rDivG (tOp (rIxG K) (tVar 0) (tC (.int 2))) (tVar 1)) (gSub (tVar 0) (tC (.int 2)) rSetL)) (tRet (tVar 3)))) tNext)
      (tRet (tOp rModG (tOp rModG (tCB rIntG (tCons (tOp (rMulG K) (tOp (rIxG K) (tVar 0) (tC (.int 3))) (tC (.int 16807))) tNil)) (tC (.int 2147483629))) (tVar 1)))
      { nx := fun _ H' => Q .non H', rt := Q } [some (.ref b), some (.int n), x2, none] H1 := fun i j s' x2 H1 d => by
    refine d_ifS (d.at (.no _) (.no _)) (by walk_at "et") (fun hc H2 e => ?_) (fun hc H2 e => ?_)
    · have d2 := d.go e
      refine d_asg (d2.at (.no _) (.no _)) (ee_op (ee_cb (by walk_at "ea") rc_int) (ee_var rfl) (rb_mod hn)) fun v H3 e3 r3 => ?_
      cases r3
      have d3 := d2.go e3
      refine d_setS d3 (d3.at (.no _) (.int _)) rfl (ee_op (by walk_at "ev") (ee_var rfl) (rb_div (wide_div (b := 30) hn (by omega) (by decide) (by decide)))) (m := 2) rfl fun H4 d4 => ?_
      have d5 := d4.set (i' := i) (j' := j / n) (s' := s') d4.i0 (Int.ediv_nonneg d4.j0 (by omega)) d4.s0 d4.s1
      exact ⟨_, rfl, fin d5 (Int.emod_nonneg _ (by omega)) (Int.emod_lt_of_pos _ hn)⟩
    · have d2 := d.go e
      refine d_nxt (d_ret (d2.at (.no _) (.no _)) (ee_op (ee_op (ee_cb (ea_cons (ee_op (by walk_at "ev") ee_int (rb_mulR ⟨by decide, by decide⟩)) ea_nil) rc_int) ee_int (rb_mod (by decide))) (ee_var rfl) (rb_mod hn)) fun v H3 e3 r3 => ?_)
      cases r3
      exact fin (d2.go e3) (Int.emod_nonneg _ (by omega)) (Int.emod_lt_of_pos _ hn)
  refine d_ifS (d0.at (.no _) (.no _)) (by walk_at "et") (fun hc H1 e => ?_) (fun hc H1 e => half _ _ _ _ _ (d0.go e))
  have d1 := d0.go e
  refine d_if (d1.at (.no _) (.no _)) (et_test (ee_op (by walk_at "ev") (ee_cb (by walk_at "ea") rc_lenML) rb_ltI)) (fun hc H2 e2 => ?_) (fun hc H2 e2 => ?_)
  · have d2 := d1.go e2
    have hi : i < ns.length := by simpa using hc
    have hg : ns[i.toNat]? = some (ns[i.toNat]'(by omega)) := List.getElem?_eq_getElem (by omega)
    have hi' : i = (i.toNat : Int) := by omega
    refine d_asg (d2.at (.no _) (.no _)) (ee_op (by walk_at "ev") (by walk_at "ev") (rb_ixL (by rw [hi']; exact atI_map hg))) fun v H3 e3 r3 => ?_
    cases r3
    have d3 := d2.go e3
    refine d_setS d3 (d3.at (.int _) (.no _)) rfl (by walk_at "ev") (m := 1) rfl fun H4 d4 => ?_
    have d5 := d4.set (i' := i + 1) (j' := j) (s' := s') (by omega) d4.j0 d4.s0 d4.s1
    refine d_if (K := K) (d5.at (.int _) (.no _)) (et_test (ee_op (ee_var rfl) (ee_op ee_int ee_int (rb_pow ⟨by decide, by decide, by decide⟩)) rb_ge)) (fun hc H5 e5 => ?_) (fun hc H5 e5 => ?_)
    · have d6 := d5.go e5
      refine d_set (K := K) d6 (d6.at (.int _) (.no _)) rfl (ee_var rfl) (m := 2) rfl fun H6 d7 => ?_
      refine half (i + 1) _ s' _ _ (d7.set d7.i0 ?_ d7.s0 d7.s1)
      have : ((10 : Int) ^ ((18 : Int).toNat)) ≤ ns[i.toNat]'(by omega) := by simpa using hc
      exact Int.le_trans (by decide) this
    · have d6 := d5.go e5
      refine d_set d6 (d6.at (.int _) (.no _)) rfl (ee_op (ee_cb (ea_cons (ee_op (ee_op (ee_op (by walk_at "ev") ee_int (rb_mulR ⟨by decide, by decide⟩)) (ee_op (ee_var rfl) ee_int (rb_mulR ⟨by decide, by decide⟩)) rb_addI) ee_int rb_addI) ea_nil) rc_int) ee_int (rb_mod (by decide))) (m := 3) rfl fun H6 d7 => ?_
      exact half (i + 1) j _ _ _ (d7.set d7.i0 d7.j0 (mod_bd _).1 (mod_bd _).2)
  · have d2 := d1.go e2
    refine d_set d2 (d2.at (.no _) (.no _)) rfl (ee_op (ee_cb (ea_cons (ee_op (ee_op (by walk_at "ev") ee_int (rb_mulR ⟨by decide, by decide⟩)) ee_int rb_addI) ea_nil) rc_int) ee_int (rb_mod (by decide))) (m := 3) rfl fun H6 d7 => ?_
    exact half i j _ _ _ (d7.set d7.i0 d7.j0 (mod_bd _).1 (mod_bd _).2)
/-! ### numbers, bits, codes that are drawn -/
theorem sign01 (r : Int) (h0 : 0 ≤ r) (h1 : r < 2) : ∃ b : Bool, atI ("01" : Str).cps.toList r = some (sg b) := by
  have : r = 0 ∨ r = 1 := by omega
  rcases this with h | h <;> subst h
  · exact ⟨false, rfl⟩
  · exact ⟨true, rfl⟩
theorem bs_sg (b : Bool) : (⟨#[sg b]⟩ : Str) = bs [b] := rfl
abbrev sp_l_bits (K : PySem.W.Frag) (B : Adr) : Sp := spD K (fun p : Nat × Nat => [D.int (p.1 : Nat), D.int (p.2 : Nat)]) (fun p => p.1 ≤ p.2 ∧ p.2 ≤ 1000) (fun p d => ∃ l : List Bool, d = .str (bs l) ∧ p.1 ≤ l.length ∧ l.length ≤ p.2)
/-- codes whose rows don't begin one another -/
def kn0 : List CodeM := [⟨[], [true], [false], 0, 0⟩, ⟨[], [true], [false], 0, 1⟩, ⟨[], [false], [true], 0, 0⟩, ⟨[], [false], [true], 0, 2⟩]
def kn1 : List CodeM := [⟨[([false], 2)], [true], [true, false], 0, 1⟩, ⟨[([false, false], 0), ([false, true], 3)], [true], [true, false], 1, 0⟩]
def kn2 : List CodeM := [⟨[([true, true], 1)], [false], [true], 2, 1⟩, ⟨[([false], 0), ([true, false], 1), ([true, true, false], 2)], [true], [true, true, true, false], 3, 3⟩]
def kn3 : List CodeM := [⟨[], [true, false], [false], 1, 1⟩, ⟨[], [true, false], [true, true], 2, 0⟩, ⟨[([true], 4)], [false, false], [false, true], 0, 3⟩]
def kn4 : List CodeM := [⟨[], [true], [false], 3, 0⟩, ⟨[], [true, true], [false], 2, 2⟩, ⟨[], [true], [false], 1, 2⟩]
def kn : List CodeM := kn0 ++ kn1 ++ kn2 ++ kn3 ++ kn4
theorem lit_0 : bs [false] = "0" := by decide
theorem lit_1 : bs [true] = "1" := by decide
theorem lit_10 : bs [true, false] = "10" := by decide
theorem lit_11 : bs [true, true] = "11" := by decide
theorem lit_00 : bs [false, false] = "00" := by decide
theorem lit_01 : bs [false, true] = "01" := by decide
theorem lit_110 : bs [true, true, false] = "110" := by decide
theorem lit_1110 : bs [true, true, true, false] = "1110" := by decide
/-- a code of the menu, with other numbers of places -/
def Kn (c : CodeM) : Prop := ∃ c0 ∈ kn, c.rows = c0.rows ∧ c.again = c0.again ∧ c.stop = c0.stop ∧ c.k ≤ 4 ∧ c.d ≤ 3
theorem kn_wf : ∀ c ∈ kn, c.rows.length ≤ 3 ∧ (∀ r ∈ c.rows, 1 ≤ r.1.length ∧ r.1.length ≤ 8 ∧ r.2 ≤ 8) ∧ 1 ≤ c.again.length ∧ c.again.length ≤ 4 ∧ c.stop.length ≤ 4 ∧ c.k ≤ 3 ∧ c.d ≤ 3 := by decide
theorem Kn.wf {c : CodeM} (h : Kn c) : Wf c ∧ c.rows.length ≤ 3 := by
  obtain ⟨c0, h0, e1, e2, e3, h4, h5⟩ := h
  obtain ⟨w1, w2, w3, w4, w5, _⟩ := kn_wf c0 h0
  exact ⟨⟨by rw [e1]; omega, by rw [e1]; exact w2, by rw [e2]; exact w3, by rw [e2]; exact w4, by rw [e3]; exact w5, by omega, h5⟩, by rw [e1]; exact w1⟩
abbrev sp_l_known (K : PySem.W.Frag) (B : Adr) : Sp := spD K (fun _ : Unit => []) (fun _ => True) (fun _ d => ∃ c, d = partsD c ∧ Kn c)
abbrev sp_l_any (K : PySem.W.Frag) (B : Adr) : Sp := spD K (fun _ : Unit => []) (fun _ => True) (fun _ d => ∃ c, d = partsD c ∧ Wf c ∧ c.rows.length ≤ 3)
theorem any_row {y : D} (h : ∃ xs, (∃ a r, xs = a :: r ∧ (∃ l : List Bool, a = .str (bs l) ∧ 1 ≤ l.length ∧ l.length ≤ 3) ∧ (∃ b r', r = b :: r' ∧ (∃ i : Int, b = .int i ∧ 0 ≤ i ∧ i < 3) ∧ r' = [])) ∧ y = .tup xs) : ∃ x : List Bool × Nat, y = rowD x ∧ 1 ≤ x.1.length ∧ x.1.length ≤ 8 ∧ x.2 ≤ 8 := by
  obtain ⟨xs, ⟨a, r, rfl, ⟨l, rfl, h1, h2⟩, ⟨b, r', rfl, ⟨i, rfl, h3, h4⟩, rfl⟩⟩, rfl⟩ := h
  obtain ⟨j, rfl⟩ : ∃ j : Nat, i = j := ⟨i.toNat, by omega⟩
  exact ⟨(l, j), rfl, h1, by dsimp only; omega, by dsimp only; omega⟩
/-! ### the law's own account -/
abbrev sp_l_row (K : PySem.W.Frag) (B : Adr) : Sp := spA2 K (fun (c : CodeM) (r : Nat) => [partsD c, D.int (r : Nat)]) (fun c r => Wf c ∧ r ≤ 20100) (fun c r => .ok (rowD (c.row r)))
abbrev sp_l_two (K : PySem.W.Frag) (B : Adr) : Sp := spA K (fun n : Nat => [D.int (n : Nat)]) (fun n => n ≤ 100000) (fun n => .ok (.int ((2 ^ n : Nat) : Int)))
theorem kk_small {c : CodeM} (wf : Wf c) {n : Nat} (h : n ≤ 100000) : c.kk (c.rowOf n) ≤ 20 := by
  have h1 := wf.kl
  have h2 := wf.dl
  have hf := (CodeM.rowOf_ok (c := c) n).1
  rcases Nat.lt_or_ge (c.rowOf n) c.rows.length with z | z
  · unfold CodeM.kk
    rw [CodeM.row_lt z]
    have := (wf.rb _ (List.getElem_mem z)).2.2
    omega
  · obtain ⟨i, hi⟩ : ∃ i, c.rowOf n = c.rows.length + i := ⟨c.rowOf n - c.rows.length, by omega⟩
    rw [hi] at hf ⊢
    unfold CodeM.kk
    rw [CodeM.row_tail]
    dsimp only
    cases i with
    | zero => simp; omega
    | succ i =>
      have e : c.rows.length + (i + 1) = (c.rows.length + i) + 1 := rfl
      rw [e, CodeM.first_succ] at hf
      have e2 : c.kk (c.rows.length + i) = c.k + c.d * i := by unfold CodeM.kk; rw [CodeM.row_tail]
      rw [e2] at hf
      have : c.k + c.d * i < 17 := by
        rcases Nat.lt_or_ge (c.k + c.d * i) 17 with z | z
        · exact z
        · have := Nat.pow_le_pow_right (show 0 < 2 by decide) z; omega
      rw [Nat.mul_succ]; omega
theorem nok_small {c : CodeM} {n : Nat} (h : n ≤ 15000) : n < c.first (c.rows.length + 16000) := by
  have := CodeM.le_first (c := c) (c.rows.length + 16000)
  omega
theorem row_small {c : CodeM} {n : Nat} (h : n ≤ 15000) : c.rowOf n ≤ 15000 := by
  have h1 := (CodeM.rowOf_ok (c := c) n).1
  have h2 := CodeM.le_first (c := c) (c.rowOf n)
  omega
theorem plc_take (v k i : Nat) (h : i < k) : (CodeM.plc v k).take (i + 1) = (CodeM.plc v k).take i ++ [v / 2 ^ (k - 1 - i) % 2 == 1] := by
  induction k generalizing i with
  | zero => omega
  | succ k ih =>
    rw [plc_cons]
    cases i with
    | zero => simp
    | succ i =>
      rw [List.take_succ_cons, List.take_succ_cons, ih i (by omega)]
      have : k + 1 - 1 - (i + 1) = k - 1 - i := by omega
      rw [this]; rfl

--@@part
theorem lok_small {c : CodeM} (wf : Wf c) {n : Nat} (h : n ≤ 15000) : c.rowOf n ≤ 15000 ∧ c.kk (c.rowOf n) ≤ 7000 := ⟨row_small h, by have := kk_small wf (show n ≤ 100000 by omega); omega⟩
theorem lok_row {c : CodeM} (wf : Wf c) {n : Nat} (h : c.rowOf n ≤ 2000) : c.rowOf n ≤ 15000 ∧ c.kk (c.rowOf n) ≤ 7000 := by
  refine ⟨by omega, ?_⟩
  have h1 := wf.kl
  have h2 := wf.dl
  unfold CodeM.kk
  rcases Nat.lt_or_ge (c.rowOf n) c.rows.length with z | z
  · rw [CodeM.row_lt z]
    have := (wf.rb _ (List.getElem_mem z)).2.2
    omega
  · rw [CodeM.row_ge z]
    have : c.d * (c.rowOf n - c.rows.length) ≤ 3 * 2000 := Nat.mul_le_mul h2 (by omega)
    dsimp only
    omega
abbrev sp_l_code (K : PySem.W.Frag) (B : Adr) : Sp := spA2 K (fun (c : CodeM) (n : Nat) => [partsD c, D.int (n : Nat)]) (fun c n => Wf c ∧ c.rowOf n ≤ 15000 ∧ c.kk (c.rowOf n) ≤ 7000) (fun c n => .ok (.str (bs (c.bits n))))
abbrev sp_l_make (K : PySem.W.Frag) (B : Adr) : Sp := spA K (fun c : CodeM => [partsD c]) (fun c => Wf c) (fun c => .ok (codeD B.Code c))
theorem okD_bs {l : List Bool} (h : l.length ≤ 100000) : okD (.str (bs l)) = true := by
  unfold okD; rw [bs_len]; exact decide_eq_true h
theorem okL_map {α : Type} {f : α → D} {xs : List α} (h : ∀ x ∈ xs, okD (f x) = true) : okL (xs.map f) = true := by
  induction xs with
  | nil => rfl
  | cons x xs ih =>
    rw [List.map_cons]
    unfold okL
    rw [h x List.mem_cons_self, ih fun y hy => h y (List.mem_cons_of_mem _ hy)]; rfl
theorem okD_row {r : List Bool × Nat} (h : r.1.length ≤ 100000) : okD (rowD r) = true := by
  show okL _ = true
  unfold okL
  rw [okD_bs h]; rfl
theorem okD_rows {c : CodeM} (wf : Wf c) : okD (rowsD c) = true := okL_map fun r hr => okD_row (by have := (wf.rb r hr).2.1; omega)
theorem okD_tail {c : CodeM} (wf : Wf c) : okD (tailD c) = true := by
  have h1 := wf.au
  have h2 := wf.sl
  show okL _ = true
  unfold okL
  rw [okD_bs (by omega)]
  unfold okL
  rw [okD_bs (by omega)]; rfl
/-! ### freedom -/
namespace CodeM
variable {c : CodeM}
/-- no row's bits begin another one's -/
def Free (c : CodeM) : Prop := ∀ r s, r ≠ s → ¬ c.head r <+: c.head s
def longest (c : CodeM) : Nat := maxN (c.rows.map (fun r => r.1.length) ++ [c.stop.length, 1])
def near (c : CodeM) : Nat := c.rows.length + c.longest / c.again.length + 3
theorem head_lt {r : Nat} (h : r < c.rows.length) : c.head r = c.rows[r].1 := by unfold head; rw [row_lt h]
theorem head_tail (i : Nat) : c.head (c.rows.length + i) = rep c.again i ++ c.stop := by unfold head; rw [row_tail]
theorem len_row {r : Nat} (h : r < c.rows.length) : (c.head r).length ≤ c.longest := by
  rw [head_lt h]
  exact le_maxN (List.mem_append_left _ (List.mem_map.mpr ⟨_, List.getElem_mem h, rfl⟩))
theorem len_stop : c.stop.length ≤ c.longest := le_maxN (List.mem_append_right _ List.mem_cons_self)
theorem pre_cut {a b x : List Bool} (h : x <+: a ++ b) (hl : x.length ≤ a.length) : x <+: a := List.prefix_of_prefix_length_le h (List.prefix_append _ _) hl
/-- a clash anywhere is a clash near -/
theorem near_clash (h1 : 1 ≤ c.again.length) {r s : Nat} (hne : r ≠ s) (hp : c.head r <+: c.head s) : ∃ r' s', r' ≠ s' ∧ r' < c.near ∧ s' < c.near ∧ c.head r' <+: c.head s' := by
  have hq : c.longest ≤ (c.longest / c.again.length + 1) * c.again.length := by
    have := Nat.div_add_mod c.longest c.again.length
    have := Nat.mod_lt c.longest (show 0 < c.again.length by omega)
    rw [Nat.succ_mul, Nat.mul_comm]; omega
  have hnr : c.near = c.rows.length + (c.longest / c.again.length) + 3 := rfl
  generalize hqd : c.longest / c.again.length = q at hq hnr
  have cut : ∀ (x : List Bool) (i : Nat), x.length ≤ c.longest → x <+: rep c.again i ++ c.stop → q + 1 ≤ i → x <+: rep c.again (q + 1) ++ c.stop := fun x i hx h hi => by
    obtain ⟨j, rfl⟩ : ∃ j, i = (q + 1) + j := ⟨i - (q + 1), by omega⟩
    rw [rep_add, List.append_assoc] at h
    exact (pre_cut h (by rw [rep_len]; omega)).trans (List.prefix_append _ _)
  rcases Nat.lt_or_ge r c.rows.length with hr | hr
  · rcases Nat.lt_or_ge s c.rows.length with hs | hs
    · exact ⟨r, s, hne, by omega, by omega, hp⟩
    · obtain ⟨i, rfl⟩ : ∃ i, s = c.rows.length + i := ⟨s - c.rows.length, by omega⟩
      rcases Nat.lt_or_ge i (q + 1) with hi | hi
      · exact ⟨r, _, hne, by omega, by omega, hp⟩
      · rw [head_tail] at hp
        exact ⟨r, c.rows.length + (q + 1), by omega, by omega, by omega, by rw [head_tail]; exact cut _ i (len_row hr) hp hi⟩
  · obtain ⟨i, rfl⟩ : ∃ i, r = c.rows.length + i := ⟨r - c.rows.length, by omega⟩
    rcases Nat.lt_or_ge s c.rows.length with hs | hs
    · have h2 := hp.length_le
      have h3 := len_row hs
      rw [head_tail, List.length_append, rep_len] at h2
      have : i < q + 1 := by
        rcases Nat.lt_or_ge i (q + 1) with z | z
        · exact z
        · have h4 := Nat.mul_le_mul_right c.again.length z
          have h5 : c.longest < (q + 1) * c.again.length := by
            have := Nat.div_add_mod c.longest c.again.length
            have := Nat.mod_lt c.longest (show 0 < c.again.length by omega)
            rw [hqd] at *
            rw [Nat.succ_mul, Nat.mul_comm]; omega
          omega
      exact ⟨_, s, hne, by omega, by omega, hp⟩
    · obtain ⟨j, rfl⟩ : ∃ j, s = c.rows.length + j := ⟨s - c.rows.length, by omega⟩
      rw [head_tail, head_tail] at hp
      have hlt : i < j := by
        rcases Nat.lt_or_ge i j with z | z
        · exact z
        · have h2 := hp.length_le
          rw [List.length_append, List.length_append, rep_len, rep_len] at h2
          have : j < i := by omega
          have h3 := Nat.mul_le_mul_right c.again.length (show j + 1 ≤ i from this)
          rw [Nat.succ_mul] at h3
          omega
      obtain ⟨e, rfl⟩ : ∃ e, j = i + e := ⟨j - i, by omega⟩
      rw [rep_add, List.append_assoc, List.prefix_append_right_inj] at hp
      rcases Nat.lt_or_ge e (q + 1) with he | he
      · exact ⟨c.rows.length + 0, c.rows.length + e, by omega, by omega, by omega, by rw [head_tail, head_tail]; exact hp⟩
      · exact ⟨c.rows.length + 0, c.rows.length + (q + 1), by omega, by omega, by omega, by rw [head_tail, head_tail]; exact cut _ e len_stop hp he⟩
def clashB (c : CodeM) (r s : Nat) : Bool := (!decide (r = s)) && (c.head r).isPrefixOf (c.head s)
theorem pre_iff {a b : List Bool} : a.isPrefixOf b = true ↔ a <+: b := List.isPrefixOf_iff_prefix
/-- whoever looks at rows near finds what there is -/
theorem free_near (h1 : 1 ≤ c.again.length) {n : Nat} (hn : c.near ≤ n) : ((List.range n).flatMap fun r => (List.range n).map fun s => c.clashB r s).any id = true ↔ ¬ c.Free := by
  rw [List.any_eq_true]
  constructor
  · rintro ⟨b, hb, hb2⟩ hf
    have hb2 : b = true := hb2
    subst hb2
    obtain ⟨r, hr, hb⟩ := List.mem_flatMap.mp hb
    obtain ⟨s, hs, hb⟩ := List.mem_map.mp hb
    unfold clashB at hb
    rw [Bool.and_eq_true] at hb
    exact hf r s (by simpa using hb.1) (pre_iff.mp hb.2)
  · intro hf
    unfold Free at hf
    have : ∃ r s, r ≠ s ∧ c.head r <+: c.head s := Classical.byContradiction fun z => hf fun r s hne hp => z ⟨r, s, hne, hp⟩
    obtain ⟨r, s, hne, hp⟩ := this
    obtain ⟨r', s', hne', hr, hs, hp'⟩ := near_clash h1 hne hp
    refine ⟨true, List.mem_flatMap.mpr ⟨r', List.mem_range.mpr (by omega), List.mem_map.mpr ⟨s', List.mem_range.mpr (by omega), ?_⟩⟩, rfl⟩
    unfold clashB
    rw [Bool.and_eq_true]
    exact ⟨by simpa using hne', pre_iff.mpr hp'⟩
theorem longest_le (wf : Wf c) : c.longest ≤ 8 := by
  have h0 : c.rows.map (fun r => r.1.length) ++ [c.stop.length, 1] ≠ [] := by simp
  have h := maxN_mem h0
  unfold longest
  rcases List.mem_append.mp h with z | z
  · obtain ⟨r, hr, e⟩ := List.mem_map.mp z
    rw [← e]; exact (wf.rb r hr).2.1
  · have := wf.sl
    simp only [List.mem_cons, List.not_mem_nil, or_false] at z
    omega
theorem near_le (wf : Wf c) : c.near ≤ 17 := by
  have h1 := longest_le wf
  have h2 := wf.rl
  have := Nat.div_le_self c.longest c.again.length
  unfold near; omega
end CodeM
open Classical in
noncomputable def freeB (c : CodeM) : Bool := decide c.Free
abbrev sp_near_rows (K : PySem.W.Frag) (B : Adr) : Sp := spA K (fun c : CodeM => [codeD B.Code c]) (fun c => Wf c) (fun c => .ok (.int (c.near : Nat)))
theorem ok_near_rows (T : Txt K mg B) : Ok P w K mg base CX0 1 "near_rows" ["code"] (sp_near_rows K B) := by
  refine T.d_near_rows.ok sc_near_rows (spA_len fun _ => rfl) (fun f cdv A outer s H vs Q E hr h => ⟨_, (pss_cons (ps_set (i := 1) sc_near_rows.nd rfl (Or.inl rfl) (pe_callB (k_max K rfl rfl) (by rfl) T.n_max (by decide +kernel) (pa_cons (pe_op (k_add K rfl) (pe_lc (own := [("row", 2)]) rfl sc_near_rows.nd (k_itup K rfl (k_fld K rfl (pv 0) rfl)) (blkOk_by (own := [("row", 2)]) (N := nm_near_rows) (sc := defScope s_near_rows) (by decide +kernel)) (fun _ _ _ _ _ => (pg_name (i := 2) sc_near_rows.nd rfl (Or.inl rfl))) (fun _ _ _ _ _ => pts_nil) (fun _ _ _ _ _ => (pe_callB (k_len K rfl) (by rfl) T.n_len (by decide +kernel) (pa_cons (pe_ix (k_ix K rfl) (pv 2) pe_int (fun _ _ => rfl)) pa_nil)))) (pe_lst (pa_cons (pe_callB (k_len K rfl) (by rfl) T.n_len (by decide +kernel) (pa_cons (pe_ix (k_ix K rfl) (k_fld K rfl (pv 0) rfl) pe_int (fun _ _ => rfl)) pa_nil)) (pa_cons pe_int pa_nil)))) pa_nil)))
    (pss_one (ps_ret (pe_op (k_add K rfl) (pe_op (k_add K rfl) (pe_callB (k_len K rfl) (by rfl) T.n_len (by decide +kernel) (pa_cons (k_fld K rfl (pv 0) rfl) pa_nil)) (pe_op op_divG (pv 1) (pe_callB (k_len K rfl) (by rfl) T.n_len (by decide +kernel) (pa_cons (pe_ix (k_ix K rfl) (k_fld K rfl (pv 0) rfl) pe_int (fun _ _ => rfl)) pa_nil)))) pe_int)))), go_fn h fun a W ha => ?_⟩)
  have h1 := ha.al
  have h2 := ha.au
  have h3 := ha.rl
  have h4 := ha.sl
  walk_at "st0"
  refine st_seq (st_asg (d := .int (a.longest : Nat)) (ee_cb (ea_cons (ee_is (y := .lst ((a.rows.map (fun r => r.1.length) ++ [a.stop.length, 1]).map fun n : Nat => .int (n : Int))) (ee_op (ee_lcA (ys := a.rows) (gD := rowD) (js := [2]) (ei_tup (by walk_at "ev")) (fun r => .int ((r.1.length : Nat) : Int)) (by omega) (by decide) (fun i r hr => ?_)) (ee_lst (ea_cons (ee_cb (ea_cons (ee_op (by walk_at "ev") ee_int (rb_ixT rfl)) ea_nil) (rc_lenB (by omega))) (ea_cons ee_int ea_nil)) (by simp)) (rb_addL (by simp; omega))) ?_) ea_nil) (rc_maxN (by simp))) (by walk_at "lt") ?_)
  · have := (ha.rb r (List.mem_of_getElem? hr)).2.1
    exact ⟨_, eg_name (by walk_at "lt"), ee_cb (ea_cons (ee_op (ee_var rfl) ee_int (rb_ixT rfl)) ea_nil) (rc_lenB (l := r.1) (by omega))⟩
  · rw [List.map_append, List.map_map]; rfl
  walk_at "fr"
  refine st_ret (ee_op (ee_op (by walk_at "ev") (ee_op (ee_var rfl) (ee_cb (ea_cons (ee_op (by walk_at "ev") ee_int (rb_ixT rfl)) ea_nil) (rc_lenB (by omega))) (rb_divN (by omega) (Nat.lt_of_le_of_lt h2 (Nat.lt_of_lt_of_le (show 4 < 2 ^ 3 by decide) (Nat.pow_le_pow_right (by decide) (by decide)))))) rb_addN) ee_int rb_addN3) rfl
abbrev sp_are_unfree (K : PySem.W.Frag) (B : Adr) : Sp := spA3 K (fun (c : CodeM) (r s : Nat) => [codeD B.Code c, .int (r : Nat), .int (s : Nat)]) (fun c r s => Wf c ∧ r ≤ 20000 ∧ s ≤ 20000) (fun c r s => .ok (.bl (c.clashB r s)))
theorem ok_are_unfree (T : Txt K mg B) : Ok P w K mg base CX0 2 "are_unfree" ["code", "r", "other"] (sp_are_unfree K B) := by
  refine T.d_are_unfree.ok sc_are_unfree (spA_len fun _ => rfl) (fun f cdv A outer s H vs Q E hr h => ⟨_, (pss_one (ps_ret (pe_and (pe_cmpR (k_ne K rfl hr.units) (pv 1) (pv 2) (nomark _)) (pe_one (pe_m1 PySem.F.slot_str_startswith PySem.F.type_str_startswith mt_startswith (pe_ix (k_ix K rfl) (pe_callH (ok_row_at T) (hr.mono (by first | decide | omega)) rfl pass0 (pa_cons (pv 0) (pa_cons (pv 2) pa_nil))) pe_int (fun _ _ => rfl)) (pe_ix (k_ix K rfl) (pe_callH (ok_row_at T) (hr.mono (by first | decide | omega)) rfl pass0 (pa_cons (pv 0) (pa_cons (pv 1) pa_nil))) pe_int (fun _ _ => rfl))))))), go_fn h fun a W ha => ?_⟩)
  obtain ⟨c, r, s⟩ := a
  dsimp only at ha
  obtain ⟨wf, h1, h2⟩ := ha
  walk_at "st0"
  exact st_ret (d := .bl (c.clashB r s)) (ee_andV (ee_op (ee_var rfl) (ee_var rfl) rb_neN) (fun _ => ee_startsB (a := c.head s) (b := c.head r) (ee_op (ee_call2 (x := c) (y := s) (by walk_at "ea") rfl ⟨wf, by omega⟩ rfl) ee_int (rb_ixT rfl)) (ee_op (ee_call2 (x := c) (y := r) (by walk_at "ea") rfl ⟨wf, by omega⟩ rfl) ee_int (rb_ixT rfl)))) rfl
def clD (c : CodeM) (x y : D) : D := match x, y with
  | .int r, .int s => .bl (c.clashB r.toNat s.toNat)
  | _, _ => .non
theorem cl_list (c : CodeM) (n : Nat) : (upto (n : Int)).flatMap (fun x => (upto (n : Int)).map (clD c x)) = (((List.range n).flatMap fun r => (List.range n).map fun s => c.clashB r s)).map D.bl := by
  unfold upto
  rw [Int.toNat_natCast, List.flatMap_map, List.map_flatMap]
  congr 1
  funext r
  rw [List.map_map, List.map_map]
  rfl
theorem freeB_any {c : CodeM} (wf : Wf c) {n : Nat} (hn : c.near ≤ n) : (!((List.range n).flatMap fun r => (List.range n).map fun s => c.clashB r s).any id) = freeB c := by
  have h := CodeM.free_near wf.al hn
  unfold freeB
  rw [Bool.eq_iff_iff]
  simp only [decide_eq_true_eq, Bool.not_eq_true']
  constructor
  · intro z
    refine Classical.byContradiction fun q => ?_
    rw [h.mpr q] at z; cases z
  · intro z
    cases e : ((List.range n).flatMap fun r => (List.range n).map fun s => c.clashB r s).any id with
    | false => rfl
    | true => exact absurd z (h.mp e)
abbrev sp_is_free (K : PySem.W.Frag) (B : Adr) : Sp := spA K (fun c : CodeM => [codeD B.Code c]) (fun c => Wf c) (fun c => .ok (.bl (freeB c)))
theorem ok_is_free (T : Txt K mg B) : Ok P w K mg base CX0 3 "is_free" ["code"] (sp_is_free K B) := by
  refine T.d_is_free.ok sc_is_free (spA_len fun _ => rfl) (fun f cdv A outer s H vs Q E hr h => ⟨_, (pss_cons (ps_set (i := 1) sc_is_free.nd rfl (Or.inr rfl) (pe_listRg rfl rfl T.n_list (prg_1 rfl T.n_range (pe_callH (ok_near_rows T) (hr.mono (by first | decide | omega)) rfl pass0 (pa_cons (pv 0) pa_nil)))))
    (pss_one (ps_ret (pe_not (pe_callB (k_any K rfl rfl) (by rfl) T.n_any (by decide +kernel) (pa_cons (pe_lc2 (own := [("r", 2), ("other", 3)]) (vs1 := [3]) rfl sc_is_free.nd (k_ilist K rfl (pv 1)) (blkOk_by (own := [("r", 2), ("other", 3)]) (N := nm_is_free) (sc := defScope s_is_free) (by decide +kernel)) (by decide) (fun _ _ _ _ _ => (pg_name (i := 2) sc_is_free.nd rfl (Or.inl rfl))) (fun _ _ _ _ _ => pts_nil) (fun _ _ _ _ _ => (k_ilist K rfl (pv 1))) (fun _ _ _ _ _ => (pg_name (i := 3) sc_is_free.nd rfl (Or.inl rfl))) (fun _ _ _ _ _ => pts_nil) (fun _ _ _ _ _ => (pe_callH (ok_are_unfree T) (hr.mono (by first | decide | omega)) rfl pass0 (pa_cons (pv 0) (pa_cons (pv 2) (pa_cons (pv 3) pa_nil)))))) pa_nil)))))), go_fn h fun a W ha => ?_⟩)
  have hn := CodeM.near_le ha
  walk_at "st0"
  refine st_seq (st_asg (ee_listRg (n := a.near) (ee_call (a := a) (by walk_at "ea") rfl ha rfl) (by omega)) (by walk_at "lt") ?_)
  walk_at "fr"
  refine st_ret (d := .bl (freeB a)) (ee_is (ee_notV (ee_cb (ea_cons (ee_is (ee_lc2 (f := clD a) (js := [2]) (js1 := [3]) (ei_list (ee_var rfl)) (by rw [upto_len, Int.toNat_natCast]; have := Nat.mul_le_mul hn hn; omega) (by decide) (by decide) (fun i x hx => ?_)) (congrArg D.lst (cl_list a a.near))) ea_nil) rc_any)) (by rw [freeB_any ha (Nat.le_refl _)])) rfl
  obtain ⟨rfl, hi⟩ := upto_get hx
  refine ⟨_, eg_name (by walk_at "lt"), rfl, ei_list (ee_var rfl), fun k y hy => ?_⟩
  obtain ⟨rfl, hk⟩ := upto_get hy
  exact ⟨_, eg_name (by walk_at "lt"), ee_call3 (x := a) (y := i) (z := k) (by walk_at "ea") rfl ⟨ha, by omega, by omega⟩ rfl⟩

/-! ### freedom by the law's own account -/
theorem clash_eq (c : CodeM) (r s : Nat) : ((!decide (r = s)) && decide ((c.head s).take (c.head r).length = c.head r)) = c.clashB r s := by
  unfold CodeM.clashB
  congr 1
  rw [Bool.eq_iff_iff, prefix_iff, decide_eq_true_iff]
theorem free_of_all {c : CodeM} (wf : Wf c) {n : Nat} (hn : c.near ≤ n) (h : ∀ r, r < n → ∀ s, s < n → c.clashB r s = false) : freeB c = true := by
  rw [← freeB_any wf hn]
  rw [Bool.not_eq_true', List.any_eq_false]
  intro b hb
  obtain ⟨r, hr, hb⟩ := List.mem_flatMap.mp hb
  obtain ⟨s, hs, hb⟩ := List.mem_map.mp hb
  rw [← hb]
  simp [h r (List.mem_range.mp hr) s (List.mem_range.mp hs)]
theorem free_not {c : CodeM} {r s : Nat} (h : c.clashB r s = true) : freeB c = false := by
  unfold freeB
  simp only [decide_eq_false_iff_not]
  intro hf
  unfold CodeM.clashB at h
  rw [Bool.and_eq_true] at h
  exact hf r s (by simpa using h.1) (CodeM.pre_iff.mp h.2)
abbrev sp_l_free (K : PySem.W.Frag) (B : Adr) : Sp := spA K (fun c : CodeM => [partsD c]) (fun c => Wf c) (fun c => .ok (.bl (freeB c)))
/-! ### order -/
theorem bits_over {c : CodeM} (hf : c.Free) {n : Nat} (h : n + 1 = c.first (c.rowOf n + 1)) : blt (c.bits n) (c.bits (n + 1)) = c.up (c.rowOf n) := by
  have e : c.rowOf (n + 1) = c.rowOf n + 1 := CodeM.rowOf_eq (Nat.le_of_eq h.symm) (by rw [h]; exact CodeM.first_lt _)
  unfold CodeM.bits
  rw [e]
  exact blt_heads _ _ (hf _ _ (by omega)) (hf _ _ (by omega))
theorem freeB_free {c : CodeM} (h : freeB c = true) : c.Free := by
  unfold freeB at h; simpa only [decide_eq_true_eq] using h
abbrev sp_check_free (K : PySem.W.Frag) (B : Adr) : Sp := spA K (fun c : CodeM => [codeD B.Code c]) (fun c => Wf c) (fun c => if freeB c = true then .ok .non else .err (.ref B.NotFree) none)
theorem ok_check_free (T : Txt K mg B) : Ok P w K mg base (L2.CX P w) 4 "check_free" ["code"] (sp_check_free K B) := by
  refine T.d_check_free.okX sc_check_free (spA_len fun _ => rfl) (fun f cdv A outer s H vs Q E hr h => ⟨_, (pss_one (ps_if (pt_not (k_tru K rfl (pe_callH (ok_is_free T) (hr.mono (by first | decide | omega)) rfl pass0 (pa_cons (pv 0) pa_nil)))) (pss_one (ps_raise0 rfl (takes_of rfl rfl rfl rfl) T.e_NotFree rfl)) pss_nil)), go_fn h fun a W ha => ?_⟩)
  walk_at "st0"
  refine st_if (et_not (et_tb (ee_call (a := a) (by walk_at "ea") rfl ha rfl))) (fun hb => ?_) (fun hb => ?_)
  · have hb : freeB a = false := by simpa using hb
    exact st_raise0 (by rw [hb]; rfl)
  · have hb : freeB a = true := by simpa using hb
    exact st_next (by rw [if_pos hb])

/-! ### lowest parts -/
abbrev lowD (a b : Nat) : D := .tup [.int ((a / Nat.gcd a b : Nat) : Int), .int ((b / Nat.gcd a b : Nat) : Int)]
abbrev sp_lowest (K : PySem.W.Frag) (B : Adr) : Sp := spA2 K (fun (a b : Nat) => [D.int (a : Nat), D.int (b : Nat)]) (fun a b => 0 < b ∧ b < 2 ^ 8000) (fun a b => .ok (lowD a b))
theorem ok_lowest (T : Txt K mg B) : Ok P w K mg base CX0 1 "lowest" ["top", "bottom"] (sp_lowest K B) := by
  refine T.d_lowest.ok sc_lowest (spA_len fun _ => rfl) (fun f cdv A outer s H vs Q E hr h => ⟨_, (pss_cons (ps_par (i := 2) (j := 3) (by rfl) sc_lowest.nd rfl rfl (by decide) rfl rfl (pa_cons (pv 0) (pa_cons (pv 1) pa_nil)) (by rfl))
    (pss_cons (ps_while PassesOwn.never (k_tru K rfl (pv 3)) (pss_one (ps_par (i := 2) (j := 3) (by rfl) sc_lowest.nd rfl rfl (by decide) rfl rfl (pa_cons (pv 3) (pa_cons (pe_op op_modG (pv 2) (pv 3)) pa_nil)) (by rfl))))
    (pss_one (ps_ret (pe_tup (pa_cons (pe_op op_divG (pv 0) (pv 2)) (pa_cons (pe_op op_divG (pv 1) (pv 2)) pa_nil))))))), go_fn h fun a W ha => ?_⟩)
  obtain ⟨p, q⟩ := a
  dsimp only at ha
  obtain ⟨h0, h1⟩ := ha
  have hg : Nat.gcd p q < 2 ^ 8000 := Nat.lt_of_le_of_lt (Nat.gcd_le_right _ h0) h1
  have hg0 : 0 < Nat.gcd p q := Nat.gcd_pos_of_pos_right _ h0
  walk_at "st0"
  refine st_seq (st_par (by walk_at "ea") (by walk_at "lt") (by walk_at "lt") ?_)
  walk_at "fr"
  refine st_seq (st_while (α := Nat × Nat) (fun x => [.v (.int (p : Nat)), .v (.int (q : Nat)), .v (.int (x.1 : Nat)), .v (.int (x.2 : Nat))]) (fun x => Nat.gcd x.1 x.2 = Nat.gcd p q) (fun x => x.2) ⟨(p, q), Fle.refl _, rfl⟩ ?_)
  rintro ⟨x, y⟩ hx
  dsimp only at hx ⊢
  refine ⟨_, by walk_at "et", fun hb => ?_, fun hb => ?_⟩
  · have hy : 0 < y := by simp [truD] at hb; omega
    refine st_par (ea_cons (ee_var rfl) (ea_cons (ee_op (ee_var rfl) (ee_var rfl) (rb_modN hy)) ea_nil)) (by walk_at "lt") (by walk_at "lt") ?_
    walk_at "fr"
    refine ⟨(y, x % y), Fle.refl _, ?_, Nat.mod_lt _ hy⟩
    dsimp only
    rw [← hx, Nat.gcd_comm y, ← Nat.gcd_rec, Nat.gcd_comm]
  · have hy : y = 0 := by simp [truD] at hb; omega
    subst hy
    rw [Nat.gcd_zero_right] at hx
    subst hx
    exact st_ret (ee_tup (ea_cons (ee_op (ee_var rfl) (ee_var rfl) (rb_divN hg0 hg)) (ea_cons (ee_op (ee_var rfl) (ee_var rfl) (rb_divN hg0 hg)) ea_nil)) (by simp)) rfl
abbrev sp_l_common (K : PySem.W.Frag) (B : Adr) : Sp := spA2 K (fun (a b : Nat) => [D.int (a : Nat), D.int (b : Nat)]) (fun a b => True) (fun a b => .ok (.int (Nat.gcd a b : Nat)))
abbrev sp_l_low (K : PySem.W.Frag) (B : Adr) : Sp := spA2 K (fun (a b : Nat) => [D.int (a : Nat), D.int (b : Nat)]) (fun a b => 0 < b ∧ b < 2 ^ 8000) (fun a b => .ok (lowD a b))
--@@part
/-! ### numbers whose codes begin one another -/
namespace CodeM
variable {c : CodeM}
/-- the code of n begins that of another number m -/
def Cl (c : CodeM) (n m : Nat) : Prop := m ≠ n ∧ c.bits n <+: c.bits m
theorem same_row {n m : Nat} (h : c.rowOf n = c.rowOf m) (hp : c.bits n <+: c.bits m) : n = m := by
  have hn := rowOf_ok (c := c) n
  have hm := rowOf_ok (c := c) m
  have hs := first_succ (c := c) (c.rowOf n)
  unfold bits at hp
  rw [← h] at hp hm
  rw [List.prefix_append_right_inj] at hp
  have e := hp.eq_of_length (by rw [plc_len, plc_len])
  have := congrArg num e
  rw [num_plc, num_plc, Nat.mod_eq_of_lt (by omega), Nat.mod_eq_of_lt (by omega)] at this
  omega
theorem free_num (hf : c.Free) {n m : Nat} (h : c.bits n <+: c.bits m) : n = m := by
  by_cases e : c.rowOf n = c.rowOf m
  · exact same_row e h
  · exfalso
    unfold bits at h
    have h1 : c.head (c.rowOf n) <+: c.head (c.rowOf m) ++ plc (m - c.first (c.rowOf m)) (c.kk (c.rowOf m)) := (List.prefix_append _ _).trans h
    rcases Nat.le_total (c.head (c.rowOf n)).length (c.head (c.rowOf m)).length with q | q
    · exact hf _ _ e (List.prefix_of_prefix_length_le h1 (List.prefix_append _ _) q)
    · exact hf _ _ (Ne.symm e) (List.prefix_of_prefix_length_le (List.prefix_append _ _) h1 q)
theorem bits_row {r : Nat} {w : List Bool} (hw : w.length = c.kk r) : c.rowOf (c.first r + num w) = r ∧ c.bits (c.first r + num w) = c.head r ++ w := by
  have hl := num_lt w
  rw [hw] at hl
  have e : c.rowOf (c.first r + num w) = r := rowOf_eq (by omega) (by rw [first_succ]; omega)
  refine ⟨e, ?_⟩
  unfold bits
  rw [e, Nat.add_sub_cancel_left, ← hw, plc_num]
theorem clash_num (h1 : 1 ≤ c.again.length) (hf : ¬ c.Free) : ∃ n m, c.Cl n m ∧ c.rowOf n < c.near := by
  have : ∃ r s, r ≠ s ∧ c.head r <+: c.head s := Classical.byContradiction fun z => hf fun r s hne hp => z ⟨r, s, hne, hp⟩
  obtain ⟨r0, s0, hne0, hp0⟩ := this
  obtain ⟨r, s, hne, hr, hs, t, ht⟩ := near_clash h1 hne0 hp0
  have hz : (List.replicate (c.kk s) false).length = c.kk s := List.length_replicate
  obtain ⟨m1, m2⟩ := bits_row (c := c) hz
  -- the code of m is head r and u
  generalize hm : c.first s + num (List.replicate (c.kk s) false) = m at m1 m2
  rw [← ht, List.append_assoc] at m2
  generalize t ++ List.replicate (c.kk s) false = u at m2
  rcases Nat.le_total (c.kk r) u.length with q | q
  · obtain ⟨n1, n2⟩ := bits_row (c := c) (r := r) (w := u.take (c.kk r)) (by rw [List.length_take]; omega)
    refine ⟨_, m, ⟨fun e => hne ?_, ?_⟩, by rw [n1]; exact hr⟩
    · rw [← n1, ← m1, e]
    · rw [n2, m2, List.prefix_append_right_inj]; exact List.take_prefix _ _
  · obtain ⟨n1, n2⟩ := bits_row (c := c) (r := r) (w := u ++ List.replicate (c.kk r - u.length) false) (by rw [List.length_append, List.length_replicate]; omega)
    refine ⟨m, c.first r + num (u ++ List.replicate (c.kk r - u.length) false), ⟨fun e => hne ?_, ?_⟩, by rw [m1]; exact hs⟩
    · rw [← n1, ← m1, e]
    · rw [n2, m2, ← List.append_assoc]; exact List.prefix_append _ _
/-- the least other number whose code that of n begins -/
noncomputable def lo (c : CodeM) (n : Nat) : Option Nat := lst (c.Cl n)
noncomputable def lirow (c : CodeM) (r n : Nat) : Option Nat := lst fun m => c.Cl n m ∧ c.rowOf m = r
noncomputable def lobelow (c : CodeM) (r n : Nat) : Option Nat := lst fun m => c.Cl n m ∧ c.rowOf m < r
theorem lirow_eq {r n : Nat} : c.lirow r n = match c.wr r (c.bits n) with
    | none => none
    | some p => if p.1 = n then none else some p.1 := by
  refine lst_eq ?_
  cases e : c.wr r (c.bits n) with
  | none =>
    rintro m ⟨h, hm⟩
    obtain ⟨p, hp, _⟩ := (wr_iff hm).mp h.2
    rw [e] at hp; cases hp
  | some p =>
    obtain ⟨h1, h2⟩ := wr_has e
    dsimp only
    by_cases q : p.1 = n
    · rw [if_pos q]
      rintro m ⟨h, hm⟩
      exact h.1 (same_row (by rw [hm, ← q, h1]) h.2).symm
    · rw [if_neg q]
      refine ⟨⟨⟨q, h2⟩, h1⟩, ?_⟩
      rintro k hk ⟨h, hm⟩
      obtain ⟨p', hp, z, _⟩ := (wr_iff hm).mp h.2
      rw [e] at hp; cases hp
      omega
theorem lobelow_zero (n : Nat) : c.lobelow 0 n = none := lst_eq fun m h => Nat.not_lt_zero _ h.2
theorem lobelow_succ (r n : Nat) : c.lobelow (r + 1) n = match c.lobelow r n with
    | some m => some m
    | none => c.lirow r n := by
  refine lst_eq ?_
  cases e : c.lobelow r n with
  | some m =>
    obtain ⟨h1, h2⟩ := lst_some e
    refine ⟨⟨h1.1, by omega⟩, fun k hk hc => ?_⟩
    have h3 := rowOf_mono (c := c) (Nat.le_of_lt hk)
    exact h2 k hk ⟨hc.1, by omega⟩
  | none =>
    have h0 := lst_none e
    cases e2 : c.lirow r n with
    | none =>
      have h1 := lst_none e2
      rintro m ⟨hc, hr⟩
      rcases Nat.lt_or_ge (c.rowOf m) r with z | z
      · exact h0 m ⟨hc, z⟩
      · exact h1 m ⟨hc, by omega⟩
    | some m =>
      obtain ⟨h1, h2⟩ := lst_some e2
      refine ⟨⟨h1.1, by omega⟩, fun k hk hc => ?_⟩
      rcases Nat.lt_or_ge (c.rowOf k) r with z | z
      · exact h0 k ⟨hc.1, z⟩
      · exact h2 k hk ⟨hc.1, by omega⟩
/-- rows that a number's code may begin: so many -/
def lrows (c : CodeM) (n : Nat) : Nat := c.rows.length + (c.bits n).length / c.again.length + 3
theorem lo_near (h1 : 1 ≤ c.again.length) (n : Nat) : c.lobelow (c.lrows n) n = c.lo n := by
  have key : ∀ m, c.Cl n m → ∃ m', c.Cl n m' ∧ c.rowOf m' < c.lrows n ∧ m' ≤ m := by
    intro m h
    rcases Nat.lt_or_ge (c.rowOf m) (c.lrows n) with z | z
    · exact ⟨m, h, z, Nat.le_refl _⟩
    · obtain ⟨q, hq⟩ : ∃ q, q = (c.bits n).length / c.again.length := ⟨_, rfl⟩
      have hl : c.lrows n = c.rows.length + q + 3 := by unfold lrows; rw [hq]
      rw [hl] at z ⊢
      have hh := near_has h1 (i := q + 1) (m := m) (by omega) (by omega) h.2 (q + 2) (by omega)
      refine ⟨c.first (c.rows.length + (q + 2)), ⟨fun e => ?_, ?_⟩, by rw [rowOf_first]; omega, ?_⟩
      · have := far_long h1 (l := c.bits n) (i := q + 2) (by omega)
        have e2 : c.rowOf n = c.rows.length + (q + 2) := by rw [← e, rowOf_first]
        rw [bits_len] at this
        unfold size at this
        rw [e2] at this; omega
      · unfold bits
        rw [rowOf_first]
        exact hh.trans (List.prefix_append _ _)
      · exact Nat.le_trans (first_mono (by omega)) (rowOf_ok m).1
  symm
  refine lst_eq ?_
  cases e : c.lobelow (c.lrows n) n with
  | none =>
    intro m h
    obtain ⟨m', a, b, _⟩ := key m h
    exact lst_none e m' ⟨a, b⟩
  | some m =>
    obtain ⟨h1, h2⟩ := lst_some e
    refine ⟨h1.1, fun k hk hc => ?_⟩
    obtain ⟨m', a, b, d⟩ := key k hc
    exact h2 m' (by omega) ⟨a, b⟩
theorem lo_row (h1 : 1 ≤ c.again.length) {n m : Nat} (h : c.lo n = some m) : c.rowOf m < c.lrows n := by
  rw [← lo_near h1] at h
  exact (lst_some h).1.2
/-- the least number that clashes -/
noncomputable def cn (c : CodeM) : Option Nat := lst fun n => ∃ m, c.Cl n m
theorem cn_free (hf : c.Free) : c.cn = none := lst_eq fun n ⟨m, h⟩ => h.1 (free_num hf h.2).symm
theorem cn_not (h1 : 1 ≤ c.again.length) (hf : ¬ c.Free) : ∃ n m, c.cn = some n ∧ c.lo n = some m ∧ c.rowOf n < c.near := by
  obtain ⟨n0, m0, h, hr⟩ := clash_num h1 hf
  obtain ⟨n, e, hn⟩ := lst_is (P := fun n => ∃ m, c.Cl n m) ⟨m0, h⟩
  obtain ⟨m1, hm1⟩ := (lst_some e).1
  obtain ⟨m, e2, _⟩ := lst_is (P := c.Cl n) hm1
  exact ⟨n, m, e, e2, Nat.lt_of_le_of_lt (rowOf_mono hn) hr⟩
theorem cn_below {n k : Nat} (h : c.cn = some n) (hk : k < n) : c.lo k = none := lst_eq fun m hm => (lst_some h).2 k hk ⟨m, hm⟩
end CodeM
noncomputable def clashD (c : CodeM) : D := match c.cn with
  | none => .non
  | some n => match c.lo n with
    | none => .non
    | some m => .tup [.int (n : Nat), .int (m : Nat)]
theorem nok_row {c : CodeM} {n : Nat} (h : c.rowOf n ≤ 15000) : NOk c n := by
  have h1 := CodeM.first_tail (c := c) 16000
  have h2 := (CodeM.rowOf_ok (c := c) n).2
  have h3 := CodeM.first_mono (c := c) (show c.rowOf n + 1 ≤ c.rows.length + 16000 by omega)
  unfold NOk; omega
theorem size_row {c : CodeM} (wf : Wf c) {n : Nat} (h : c.rowOf n ≤ 20) : (c.bits n).length ≤ 200 := by
  rw [CodeM.bits_len]
  have h1 := wf.kl
  have h2 := wf.dl
  have h4 := wf.au
  have h5 := wf.sl
  unfold CodeM.size CodeM.head CodeM.kk
  rcases Nat.lt_or_ge (c.rowOf n) c.rows.length with z | z
  · rw [CodeM.row_lt z]
    have := (wf.rb _ (List.getElem_mem z)).2
    omega
  · rw [CodeM.row_ge z]
    have a1 : c.d * (c.rowOf n - c.rows.length) ≤ 3 * 20 := Nat.mul_le_mul h2 (by omega)
    have a2 : (c.rowOf n - c.rows.length) * c.again.length ≤ 20 * 4 := Nat.mul_le_mul (by omega) h4
    dsimp only
    rw [List.length_append, rep_len]
    omega

abbrev sp_least_in_row (K : PySem.W.Frag) (B : Adr) : Sp := spA3 K (fun (c : CodeM) (r n : Nat) => [codeD B.Code c, D.int (r : Nat), .str (bs (c.bits n)), D.int (n : Nat)]) (fun c r n => Wf c ∧ r ≤ 2000 ∧ c.rowOf n ≤ 20) (fun c r n => .ok (optD (c.lirow r n)))
theorem ok_least_in_row (T : Txt K mg B) : Ok P w K mg base CX0 4 "least_in_row" ["code", "r", "bits", "n"] (sp_least_in_row K B) := by
  refine T.d_least_in_row.ok sc_least_in_row (spA_len fun _ => rfl) (fun f cdv A outer s H vs Q E hr h => ⟨_, (pss_cons (ps_asg (pe_callH (ok_row_at T) (hr.mono (by first | decide | omega)) rfl pass0 (pa_cons (pv 0) (pa_cons (pv 1) pa_nil))) (k_tup (n := 2) K rfl rfl (pgs_cons (pg_name (i := 4) sc_least_in_row.nd rfl (Or.inl rfl)) (pgs_cons (pg_name (i := 5) sc_least_in_row.nd rfl (Or.inl rfl)) pgs_nil))))
    (pss_cons (ps_set (i := 6) sc_least_in_row.nd rfl (Or.inl rfl) (pe_callH (ok_first_number T) (hr.mono (by first | decide | omega)) rfl pass0 (pa_cons (pv 0) (pa_cons (pv 1) pa_nil))))
    (pss_cons (ps_if (k_tru K rfl (pe_m1 PySem.F.slot_str_startswith PySem.F.type_str_startswith mt_startswith (pv 4) (pv 2))) (pss_one (ps_ret (pe_ifExp (pt_cmpR (k_eq K rfl hr.units) (pv 6) (pv 3) (nomark _)) pe_non (pv 6)))) pss_nil)
    (pss_cons (ps_set (i := 7) sc_least_in_row.nd rfl (Or.inl rfl) (pe_slice (k_sl K rfl) (pv 2) (po_some (pe_callB (k_len K rfl) (by rfl) T.n_len (by decide +kernel) (pa_cons (pv 4) pa_nil))) po_none))
    (pss_cons (ps_if (PW.pt (pw_or (pt_not (k_tru K rfl (pe_m1 PySem.F.slot_str_startswith PySem.F.type_str_startswith mt_startswith (pv 2) (pv 4)))) (pw_or1 (pt_cmpR op_gtG (pe_callB (k_len K rfl) (by rfl) T.n_len (by decide +kernel) (pa_cons (pv 7) pa_nil)) (pv 5) (nomark _))))) (pss_one (ps_ret pe_non)) pss_nil)
    (pss_cons (ps_set (i := 8) sc_least_in_row.nd rfl (Or.inl rfl) pe_int)
    (pss_cons (ps_for PassesOwn.never rfl (pi_str (pv 7)) (pg_name (i := 9) sc_least_in_row.nd rfl (Or.inl rfl)) (pss_one (ps_set (i := 8) sc_least_in_row.nd rfl (Or.inl rfl) (pe_op (k_add K rfl) (pe_op (k_mul K rfl) pe_int (pv 8)) (pe_callTy k_intS (by rfl) T.n_int (by decide +kernel) (pa_cons (pv 9) pa_nil))))))
    (pss_cons (ps_set (i := 10) sc_least_in_row.nd rfl (Or.inl rfl) (pe_op (k_add K rfl) (pv 6) (pe_op (k_mul K rfl) (pv 8) (pe_callH (ok_power T) (hr.mono (by first | decide | omega)) rfl pass0 (pa_cons (pe_op op_subG (pv 5) (pe_callB (k_len K rfl) (by rfl) T.n_len (by decide +kernel) (pa_cons (pv 7) pa_nil))) pa_nil)))))
    (pss_one (ps_ret (pe_ifExp (pt_cmpR (k_eq K rfl hr.units) (pv 10) (pv 3) (nomark _)) pe_non (pv 10)))))))))))), go_fn h fun a W ha => ?_⟩)
  obtain ⟨c, r, n⟩ := a
  dsimp only at ha
  obtain ⟨wf, hr0, hn⟩ := ha
  have hsz := size_row wf hn
  have hhb := head_bd wf (show r ≤ c.rows.length + 16000 by omega)
  have hkb := kk_bd wf (show r ≤ c.rows.length + 16000 by omega)
  walk_at "st0"
  rw [CodeM.lirow_eq]
  obtain ⟨L, hL⟩ : ∃ L, L = c.bits n := ⟨_, rfl⟩
  rw [← hL]
  rw [← hL] at hsz
  refine st_seq (st_asgG (ee_call2 (x := c) (y := r) (by walk_at "ea") rfl ⟨wf, by omega⟩ rfl) (by walk_at "un2") ?_)
  walk_at "fr"
  refine st_seq (st_asg (ee_call2 (x := c) (y := r) (by walk_at "ea") rfl ⟨wf, by omega⟩ rfl) (by walk_at "lt") ?_)
  walk_at "fr"
  unfold CodeM.wr
  refine st_seq (st_if (et_tb (ee_startsB (a := c.head r) (b := L) (ee_var rfl) (ee_var rfl))) (fun hb => ?_) (fun hb => ?_))
  · rw [if_pos hb]
    refine st_ret (ee_if (et_test (ee_op (ee_var rfl) (ee_var rfl) rb_eqN)) (fun hc => ee_is ee_non ?_) (fun hc => ee_is (ee_var rfl) ?_)) rfl
    · dsimp only; rw [if_pos (of_decide_eq_true hc)]; rfl
    · dsimp only; rw [if_neg (of_decide_eq_false hc)]; rfl
  · have hb' : ¬ L.isPrefixOf (c.head r) = true := by rw [hb]; decide
    rw [if_neg hb']
    refine st_next (st_seq (st_asg (d := .str (bs (L.drop (c.head r).length))) (ee_sl (ee_var rfl) (eo_some (ee_cb (by walk_at "ea") (rc_lenB (l := c.head r) (by omega)))) eo_none (rs_fromB (by omega))) (by walk_at "lt") ?_))
    walk_at "fr"
    have hdl : (L.drop (c.head r).length).length = L.length - (c.head r).length := List.length_drop
    refine st_seq (st_if (et_or (et_not (et_tb (ee_startsB (a := L) (b := c.head r) (ee_var rfl) (ee_var rfl)))) (fun _ => et_test (ee_op (ee_cb (by walk_at "ea") (rc_lenB (by omega))) (ee_var rfl) rb_gtN))) (fun hc => ?_) (fun hc => ?_))
    · have hc : ¬ ((c.head r).isPrefixOf L = true ∧ L.length - (c.head r).length ≤ c.kk r) := by
        rintro ⟨z1, z2⟩
        have : (!(c.head r).isPrefixOf L || decide ((c.row r).2 < (L.drop (c.head r).length).length)) = true := hc
        rw [z1, hdl, decide_eq_false (show ¬ (c.row r).2 < L.length - (c.head r).length from Nat.not_lt.mpr z2)] at this
        cases this
      rw [if_neg hc]
      exact st_ret ee_non rfl
    · have hc : ((c.head r).isPrefixOf L = true ∧ L.length - (c.head r).length ≤ c.kk r) := by
        have h0 : (!(c.head r).isPrefixOf L || decide ((c.row r).2 < (L.drop (c.head r).length).length)) = false := hc
        rw [Bool.or_eq_false_iff] at h0
        have h2 := of_decide_eq_false h0.2
        rw [hdl] at h2
        exact ⟨by simpa using h0.1, Nat.not_lt.mp h2⟩
      rw [if_pos hc]
      obtain ⟨M, hM⟩ : ∃ M, M = L.drop (c.head r).length := ⟨_, rfl⟩
      rw [← hM] at hdl ⊢
      refine st_next (st_seq (st_asg (d := .int ((CodeM.num (M.take 0) : Nat) : Int)) ee_int (by walk_at "lt") ?_))
      walk_at "fr"
      refine st_seq (st_for (α := Unit) (ei_bits (l := M) (ee_var rfl)) (fun i _ => [.v (codeD B.Code c), .v (.int (r : Nat)), .v (.str (bs L)), .v (.int (n : Nat)), .v (.str (bs (c.head r))), .v (.int (c.kk r : Nat)), .v (.int (c.first r : Nat)), .v (.str (bs M)), .v (.int ((CodeM.num (M.take i) : Nat) : Int)), .no, .no]) (fun _ _ => True) ⟨(), Fle.refl _, trivial⟩ ?_ ?_)
      · rintro i d - hi -
        rw [List.getElem?_map] at hi
        cases eb : M[i]? with
        | none => rw [eb] at hi; cases hi
        | some b =>
          rw [eb] at hi
          have hd : D.str (bs [b]) = d := Option.some.inj hi
          subst hd
          refine ⟨_, _, eg_name (by walk_at "lt"), ?_⟩
          walk_at "fr"
          refine st_asg (ee_op (ee_op ee_int (ee_var rfl) rb_mul2N) (ee_cb (by walk_at "ea") rc_intBit) rb_addN) (by walk_at "lt") ?_
          walk_at "fr"
          exact ⟨(), .keep rfl (.keep rfl (.keep rfl (.keep rfl (.keep rfl (.keep rfl (.keep rfl (.keep rfl (.keep (by rw [num_take eb]) (.drop (Fle.refl _)))))))))), trivial⟩
      · rintro - -
        rw [List.length_map, List.take_of_length_le (Nat.le_refl _)]
        have hnum := CodeM.num_lt M
        have hml : M.length ≤ 200 := by omega
        refine st_seq (st_asg (d := .int ((c.first r + CodeM.num M * 2 ^ (c.kk r - M.length) : Nat) : Int)) (ee_op (ee_var rfl) (ee_op (ee_var rfl) (ee_call (a := c.kk r - M.length) (ea_cons (ee_op (ee_var rfl) (ee_cb (by walk_at "ea") (rc_lenB (by omega))) (rb_subN (by omega))) ea_nil) rfl (by omega) rfl) (rb_mulNW (M.length + 1) (c.kk r - M.length + 1) (Nat.lt_trans hnum (pw_lt _)) (pw_lt _) (by omega) (by omega) (by omega))) rb_addN) (by walk_at "lt") ?_)
        walk_at "fr"
        rw [← hdl]
        refine st_ret (ee_if (et_test (ee_op (ee_var rfl) (ee_var rfl) rb_eqN)) (fun hc => ee_is ee_non ?_) (fun hc => ee_is (ee_var rfl) ?_)) rfl
        · rw [if_pos (of_decide_eq_true hc)]; rfl
        · rw [if_neg (of_decide_eq_false hc)]; rfl
abbrev sp_least_other (K : PySem.W.Frag) (B : Adr) : Sp := spA2 K (fun (c : CodeM) (n : Nat) => [codeD B.Code c, D.int (n : Nat)]) (fun c n => Wf c ∧ c.rowOf n ≤ 20) (fun c n => .ok (optD (c.lo n)))
theorem ok_least_other (T : Txt K mg B) : Ok P w K mg base CX0 6 "least_other" ["code", "n"] (sp_least_other K B) := by
  refine T.d_least_other.ok sc_least_other (spA_len fun _ => rfl) (fun f cdv A outer s H vs Q E hr h => ⟨_, (pss_cons (ps_set (i := 2) sc_least_other.nd rfl (Or.inl rfl) (pe_callH (ok_bits_of T) (hr.mono (by first | decide | omega)) rfl pass0 (pa_cons (pv 0) (pa_cons (pv 1) pa_nil))))
    (pss_cons (ps_set (i := 3) sc_least_other.nd rfl (Or.inl rfl) pe_non)
    (pss_cons (ps_for PassesOwn.never rfl (pi_range1 rfl T.n_range (pa_cons (pe_op (k_add K rfl) (pe_op (k_add K rfl) (pe_callB (k_len K rfl) (by rfl) T.n_len (by decide +kernel) (pa_cons (k_fld K rfl (pv 0) rfl) pa_nil)) (pe_op op_divG (pe_callB (k_len K rfl) (by rfl) T.n_len (by decide +kernel) (pa_cons (pv 2) pa_nil)) (pe_callB (k_len K rfl) (by rfl) T.n_len (by decide +kernel) (pa_cons (pe_ix (k_ix K rfl) (k_fld K rfl (pv 0) rfl) pe_int (fun _ _ => rfl)) pa_nil)))) pe_int) pa_nil)) (pg_name (i := 4) sc_least_other.nd rfl (Or.inl rfl)) (pss_cons (ps_set (i := 5) sc_least_other.nd rfl (Or.inl rfl) (pe_callH (ok_least_in_row T) (hr.mono (by first | decide | omega)) rfl pass0 (pa_cons (pv 0) (pa_cons (pv 4) (pa_cons (pv 2) (pa_cons (pv 1) pa_nil))))))
    (pss_one (ps_if (PW.pt (pw_and (pt_cmpR op_nisG (pv 5) pe_non (nomark _)) (pw_and1 (PW.pt (pw_or (pt_cmpR op_isG (pv 3) pe_non (nomark _)) (pw_or1 (pt_cmpR op_ltG (pv 5) (pv 3) (nomark _)))))))) (pss_one (ps_set (i := 3) sc_least_other.nd rfl (Or.inl rfl) (pv 5))) pss_nil))))
    (pss_one (ps_ret (pv 3)))))), go_fn h fun a W ha => ?_⟩)
  obtain ⟨c, n⟩ := a
  dsimp only at ha
  obtain ⟨wf, hn⟩ := ha
  have hsz := size_row wf hn
  have hal := wf.al
  have hau := wf.au
  have hrl := wf.rl
  have hdv := Nat.div_le_self (c.bits n).length c.again.length
  have hlr : c.lrows n ≤ 209 := by unfold CodeM.lrows; omega
  obtain ⟨N, hN⟩ : ∃ N, N = c.lrows n := ⟨_, rfl⟩
  walk_at "st0"
  rw [← CodeM.lo_near wf.al]
  rw [← hN]
  refine st_seq (st_asg (ee_call2 (x := c) (y := n) (by walk_at "ea") rfl ⟨wf, nok_row (by omega)⟩ rfl) (by walk_at "lt") ?_)
  walk_at "fr"
  refine st_seq (st_asg (d := optD (c.lobelow 0 n)) (ee_is ee_non (by rw [CodeM.lobelow_zero]; rfl)) (by walk_at "lt") ?_)
  walk_at "fr"
  refine st_seq (st_for (α := Unit) (ei_rng1 (j := (N : Nat)) (ea_is (ea_cons (ee_op (ee_op (ee_cb (ea_cons (by walk_at "ev") ea_nil) rc_lenM) (ee_op (ee_cb (by walk_at "ea") (rc_lenB (by omega))) (ee_cb (ea_cons (ee_op (by walk_at "ev") ee_int (rb_ixT rfl)) ea_nil) (rc_lenB (by omega))) (rb_divN (by omega) (Nat.lt_of_le_of_lt hau (Nat.lt_of_lt_of_le (show 4 < 2 ^ 3 by decide) (Nat.pow_le_pow_right (by decide) (by decide)))))) rb_addN) ee_int rb_addN3) ea_nil) (by rw [hN]; rfl)) (by omega) (by omega)) (fun i _ => [.v (codeD B.Code c), .v (.int (n : Nat)), .v (.str (bs (c.bits n))), .v (optD (c.lobelow i n)), .no, .no]) (fun _ _ => True) ⟨(), Fle.refl _, trivial⟩ ?_ ?_)
  · rintro i d - hi -
    obtain ⟨rfl, hlt⟩ := upto_get hi
    have hlt : i < N := by omega
    refine ⟨_, _, eg_name (by walk_at "lt"), ?_⟩
    walk_at "fr"
    refine st_seq (st_asg (ee_call3 (x := c) (y := i) (z := n) (by walk_at "ea") rfl ⟨wf, by omega, hn⟩ rfl) (by walk_at "lt") ?_)
    walk_at "fr"
    have e := CodeM.lobelow_succ (c := c) i n
    cases e1 : c.lirow i n with
    | none =>
      refine st_if (et_and0 (et_test (ee_op (ee_var rfl) ee_non rb_nis))) (fun z => nomatch z) (fun _ => st_next ⟨(), .keep rfl (.keep rfl (.keep rfl (.keep ?_ (.drop (.drop .nil))))), trivial⟩)
      rw [e, e1]
      cases c.lobelow i n <;> rfl
    | some m =>
      cases e2 : c.lobelow i n with
      | none =>
        refine st_if (et_and2 (et_test (ee_op (ee_var rfl) ee_non rb_nis)) (et_or1 (et_test (ee_op (ee_var rfl) ee_non rb_is)))) (fun _ => st_asg (ee_var rfl) (by walk_at "lt") ?_) (fun z => nomatch z)
        walk_at "fr"
        refine ⟨(), .keep rfl (.keep rfl (.keep rfl (.keep ?_ (.drop (.drop .nil))))), trivial⟩
        rw [e, e1, e2]
      | some m' =>
        have hlt2 : ¬ m < m' := by
          intro z
          have h1 := (lst_some e1).1.2
          have h2 := (lst_some e2).1.2
          have := CodeM.rowOf_mono (c := c) (Nat.le_of_lt z)
          omega
        refine st_if (et_is (et_and2 (et_test (ee_op (ee_var rfl) ee_non rb_nis)) (et_or2 (et_test (ee_op (ee_var rfl) ee_non rb_is)) (et_test (ee_op (ee_var rfl) (ee_var rfl) rb_ltN)))) (decide_eq_false hlt2 : _ = false)) (fun z => nomatch z) (fun _ => st_next ⟨(), .keep rfl (.keep rfl (.keep rfl (.keep ?_ (.drop (.drop .nil))))), trivial⟩)
        rw [e, e2]
  · rintro - -
    rw [upto_len, Int.toNat_natCast]
    exact st_ret (ee_var rfl) rfl
abbrev sp_least_clash (K : PySem.W.Frag) (B : Adr) : Sp := spA K (fun c : CodeM => [codeD B.Code c]) (fun c => Wf c ∧ ¬ c.Free) (fun c => .ok (clashD c))
theorem ok_least_clash (T : Txt K mg B) : Ok P w K mg base CX0 7 "least_clash" ["code"] (sp_least_clash K B) := by
  refine T.d_least_clash.ok sc_least_clash (spA_len fun _ => rfl) (fun f cdv A outer s H vs Q E hr h => ⟨_, (pss_cons (ps_set (i := 1) sc_least_clash.nd rfl (Or.inl rfl) pe_int)
    (pss_one (ps_while PassesOwn.never (k_tru K rfl pe_bl) (pss_cons (ps_set (i := 2) sc_least_clash.nd rfl (Or.inl rfl) (pe_callH (ok_least_other T) (hr.mono (by first | decide | omega)) rfl pass0 (pa_cons (pv 0) (pa_cons (pv 1) pa_nil))))
    (pss_cons (ps_if (pt_cmpR op_nisG (pv 2) pe_non (nomark _)) (pss_one (ps_ret (pe_tup (pa_cons (pv 1) (pa_cons (pv 2) pa_nil))))) pss_nil)
    (pss_one (ps_aug (i := 1) sc_least_clash.nd rfl (Or.inl rfl) pe_int ip_add))))))), go_fn h fun a W ha => ?_⟩)
  obtain ⟨wf, hf⟩ := ha
  obtain ⟨n0, m0, e1, e2, hr⟩ := CodeM.cn_not wf.al hf
  have hne := CodeM.near_le wf
  have hD : clashD a = .tup [.int (n0 : Nat), .int (m0 : Nat)] := by unfold clashD; rw [e1]; dsimp only; rw [e2]
  walk_at "st0"
  rw [hD]
  refine st_seq (st_asg (d := .int ((0 : Nat) : Int)) ee_int (by walk_at "lt") ?_)
  walk_at "fr"
  refine st_while (α := Nat) (fun n => [.v (codeD B.Code a), .v (.int (n : Nat)), .no]) (fun n => n ≤ n0) (fun n => n0 - n) ⟨0, Fle.refl _, Nat.zero_le _⟩ ?_
  intro n hn
  have hrn := CodeM.rowOf_mono (c := a) hn
  refine ⟨_, et_tb ee_bl, fun _ => ?_, fun z => nomatch z⟩
  refine st_seq (st_asg (ee_call2 (x := a) (y := n) (by walk_at "ea") rfl ⟨wf, by omega⟩ rfl) (by walk_at "lt") ?_)
  walk_at "fr"
  rcases Nat.lt_or_ge n n0 with z | z
  · rw [CodeM.cn_below e1 z]
    refine st_seq (st_if (et_test (ee_op (ee_var rfl) ee_non rb_nis)) (fun z => nomatch z) (fun _ => st_next ?_))
    refine st_aug1 rfl ?_
    walk_at "fr"
    exact ⟨n + 1, .keep rfl (.keep rfl (.drop .nil)), z, by omega⟩
  · have : n = n0 := by omega
    subst this
    rw [e2]
    exact st_seq (st_if (et_test (ee_op (ee_var rfl) ee_non rb_nis)) (fun _ => st_ret (ee_tup (by walk_at "ea") (by simp)) rfl) (fun z => nomatch z))
abbrev sp_clash (K : PySem.W.Frag) (B : Adr) : Sp := spA K (fun c : CodeM => [codeD B.Code c]) (fun c => Wf c) (fun c => .ok (clashD c))
theorem ok_clash (T : Txt K mg B) : Ok P w K mg base CX0 8 "clash" ["code"] (sp_clash K B) := by
  refine T.d_clash.ok sc_clash (spA_len fun _ => rfl) (fun f cdv A outer s H vs Q E hr h => ⟨_, (pss_cons (ps_if (k_tru K rfl (pe_callH (ok_is_free T) (hr.mono (by first | decide | omega)) rfl pass0 (pa_cons (pv 0) pa_nil))) (pss_one (ps_ret pe_non)) pss_nil)
    (pss_one (ps_ret (pe_callH (ok_least_clash T) (hr.mono (by first | decide | omega)) rfl pass0 (pa_cons (pv 0) pa_nil))))), go_fn h fun a W ha => ?_⟩)
  walk_at "st0"
  refine st_seq (st_if (et_tb (ee_call (a := a) (by walk_at "ea") rfl ha rfl)) (fun hb => ?_) (fun hb => ?_))
  · have hf := freeB_free hb
    refine st_ret ee_non ?_
    have hD : clashD a = .non := by unfold clashD; rw [CodeM.cn_free hf]
    rw [hD]
  · have hf : ¬ a.Free := by unfold freeB at hb; simpa only [decide_eq_false_iff_not] using hb
    exact st_next (st_ret (ee_call (a := a) (by walk_at "ea") rfl ⟨ha, hf⟩ rfl) rfl)

--@@part
/-! ### the first number of bits -/
namespace CodeM
variable {c : CodeM} {l : List Bool} {r s : Nat}
theorem pre_both {a b l : List Bool} (h1 : a <+: l) (h2 : b <+: l) : a <+: b ∨ b <+: a := by
  rcases Nat.le_total a.length b.length with q | q
  · exact .inl (List.prefix_of_prefix_length_le h1 h2 q)
  · exact .inr (List.prefix_of_prefix_length_le h2 h1 q)
theorem head_uniq (hf : c.Free) (h1 : c.head r <+: l) (h2 : c.head s <+: l) : r = s := by
  by_cases e : r = s
  · exact e
  · rcases pre_both h1 h2 with h | h
    · exact absurd h (hf _ _ e)
    · exact absurd h (hf _ _ (Ne.symm e))
theorem head_pos (hf : c.Free) (r : Nat) : 1 ≤ (c.head r).length := by
  cases e : c.head r with
  | nil => exact absurd (by rw [e]; exact List.nil_prefix) (hf r (r + 1) (by omega))
  | cons => simp
theorem size_pos (hf : c.Free) (n : Nat) : 1 ≤ c.size n := by have := head_pos hf (c.rowOf n); unfold size; omega
noncomputable def tkn (c : CodeM) (l : List Bool) : Option Nat := lst fun n => c.bits n <+: l
theorem tkn_eq (hf : c.Free) {n : Nat} (h : c.bits n <+: l) : c.tkn l = some n := lst_eq ⟨h, fun k hk h2 => by
  rcases pre_both h h2 with z | z
  · have := free_num hf z; omega
  · have := free_num hf z; omega⟩
theorem head_bits (n : Nat) : c.head (c.rowOf n) <+: c.bits n := List.prefix_append _ _
theorem tk_row (hf : c.Free) (h : c.head r <+: l) (hk : (c.head r).length + c.kk r ≤ l.length) : c.tkn l = some (c.first r + num ((l.drop (c.head r).length).take (c.kk r))) ∧ c.size (c.first r + num ((l.drop (c.head r).length).take (c.kk r))) = (c.head r).length + c.kk r := by
  obtain ⟨e, he⟩ := bits_row (c := c) (r := r) (w := (l.drop (c.head r).length).take (c.kk r)) (by rw [List.length_take, List.length_drop]; omega)
  refine ⟨tkn_eq hf ?_, ?_⟩
  · obtain ⟨t, rfl⟩ := h
    rw [he, List.prefix_append_right_inj, List.drop_left]
    exact List.take_prefix _ _
  · unfold size; rw [e]
theorem tk_none (h : ∀ r, c.head r <+: l → l.length < (c.head r).length + c.kk r) : c.tkn l = none := lst_eq fun n hn => by
  have h1 := h _ ((head_bits n).trans hn)
  have h2 := hn.length_le
  rw [bits_len] at h2
  unfold size at h2; omega
theorem tk_cut (hf : c.Free) (h : c.head r <+: l) (hk : l.length < (c.head r).length + c.kk r) : c.tkn l = none := tk_none fun s hs => by
  have := head_uniq hf h hs
  subst this; exact hk
theorem cut_iff : (∃ n, l <+: c.bits n) ↔ ∃ r, l <+: c.head r ∨ (c.head r <+: l ∧ l.length ≤ (c.head r).length + c.kk r) := by
  constructor
  · rintro ⟨n, h⟩
    obtain ⟨p, hp, _⟩ := (wr_iff rfl).mp h
    refine ⟨c.rowOf n, ?_⟩
    unfold wr at hp
    split at hp
    · rename_i z; exact .inl (pre_iff'.mp z)
    · split at hp
      · rename_i z; exact .inr ⟨pre_iff'.mp z.1, by have := z.2; omega⟩
      · cases hp
  · rintro ⟨r, h⟩
    have : ∃ p, c.wr r l = some p := by
      unfold wr
      by_cases h1 : l.isPrefixOf (c.head r) = true
      · rw [if_pos h1]; exact ⟨_, rfl⟩
      · rw [if_neg h1]
        rcases h with h | h
        · exact absurd (pre_iff'.mpr h) h1
        · rw [if_pos ⟨pre_iff'.mpr h.1, by have := h.2; omega⟩]; exact ⟨_, rfl⟩
    obtain ⟨p, hp⟩ := this
    exact ⟨_, (wr_has hp).2⟩
theorem far_no (h1 : 1 ≤ c.again.length) (h : c.head r <+: l) : r < c.rows.length + l.length / c.again.length + 1 := by
  obtain ⟨q, hq⟩ : ∃ q, q = l.length / c.again.length := ⟨_, rfl⟩
  rw [← hq]
  rcases Nat.lt_or_ge r (c.rows.length + q + 1) with z | z
  · exact z
  · obtain ⟨i, rfl⟩ : ∃ i, r = c.rows.length + i := ⟨r - c.rows.length, by omega⟩
    have := far_long h1 (l := l) (i := i) (by omega)
    have := h.length_le
    omega
theorem far_cut (h1 : 1 ≤ c.again.length) (h : l <+: c.head r) : ∃ s, s < c.rows.length + l.length / c.again.length + 2 ∧ l <+: c.head s := by
  obtain ⟨q, hq⟩ : ∃ q, q = l.length / c.again.length := ⟨_, rfl⟩
  rw [← hq]
  rcases Nat.lt_or_ge r (c.rows.length + q + 2) with z | z
  · exact ⟨r, z, h⟩
  · obtain ⟨i, rfl⟩ : ∃ i, r = c.rows.length + i := ⟨r - c.rows.length, by omega⟩
    exact ⟨c.rows.length + (q + 1), by omega, far_like h1 (by omega) (by omega) h⟩
open Classical in
noncomputable def wP (P : Nat → Prop) (i : Nat) : Str := if ∃ r, r < i ∧ P r then "cut" else "dead"
theorem wP_zero (P : Nat → Prop) : wP P 0 = "dead" := if_neg fun ⟨r, h, _⟩ => Nat.not_lt_zero _ h
theorem wP_yes {P : Nat → Prop} {i : Nat} (h : P i) : wP P (i + 1) = "cut" := if_pos ⟨i, by omega, h⟩
theorem wP_no {P : Nat → Prop} {i : Nat} (h : ¬ P i) : wP P (i + 1) = wP P i := by
  unfold wP
  congr 1
  refine propext ⟨fun ⟨r, h1, h2⟩ => ⟨r, ?_, h2⟩, fun ⟨r, h1, h2⟩ => ⟨r, by omega, h2⟩⟩
  rcases Nat.lt_or_ge r i with z | z
  · exact z
  · have : r = i := by omega
    subst this; exact absurd h2 h
open Classical in
noncomputable def wrd (c : CodeM) (l : List Bool) : Str := if ∃ n, l <+: c.bits n then "cut" else "dead"
theorem wrd_cut (h : ∃ n, l <+: c.bits n) : c.wrd l = "cut" := if_pos h
theorem wrd_is {P : Nat → Prop} {i : Nat} (h : (∃ r, r < i ∧ P r) ↔ ∃ n, l <+: c.bits n) : c.wrd l = wP P i := by
  unfold wrd wP
  congr 1
  exact propext h.symm
end CodeM
noncomputable def tkD (c : CodeM) (l : List Bool) : List D := match c.tkn l with
  | some n => [.int (n : Nat), .int (c.size n : Nat)]
  | none => [.non, .str (c.wrd l)]
theorem tkD_none {c : CodeM} {l : List Bool} (h : c.tkn l = none) : tkD c l = [.non, .str (c.wrd l)] := by unfold tkD; rw [h]
theorem tkD_some {c : CodeM} {l : List Bool} {n : Nat} (h : c.tkn l = some n) : tkD c l = [.int (n : Nat), .int (c.size n : Nat)] := by unfold tkD; rw [h]
theorem kk_bd2 {c : CodeM} (wf : Wf c) {r : Nat} (h : r ≤ 10000) : c.kk r ≤ 30008 := by
  have h1 := wf.kl
  have h2 := wf.dl
  unfold CodeM.kk
  rcases Nat.lt_or_ge r c.rows.length with z | z
  · rw [CodeM.row_lt z]
    have := (wf.rb _ (List.getElem_mem z)).2.2
    omega
  · rw [CodeM.row_ge z]
    have : c.d * (r - c.rows.length) ≤ 3 * 10000 := Nat.mul_le_mul h2 (by omega)
    dsimp only
    omega
abbrev sp_number_of (K : PySem.W.Frag) (B : Adr) : Sp := spA K (fun l : List Bool => [.str (bs l)]) (fun l => l.length ≤ 100000) (fun l => .ok (.int (CodeM.num l : Nat)))
theorem ok_number_of (T : Txt K mg B) : Ok P w K mg base CX0 1 "number_of" ["bits"] (sp_number_of K B) := by
  refine T.d_number_of.ok sc_number_of (spA_len fun _ => rfl) (fun f cdv A outer s H vs Q E hr h => ⟨_, (pss_cons (ps_set (i := 1) sc_number_of.nd rfl (Or.inl rfl) pe_int)
    (pss_cons (ps_for PassesOwn.never rfl (pi_str (pv 0)) (pg_name (i := 2) sc_number_of.nd rfl (Or.inl rfl)) (pss_one (ps_set (i := 1) sc_number_of.nd rfl (Or.inl rfl) (pe_op (k_add K rfl) (pe_op (k_mul K rfl) pe_int (pv 1)) (pe_callTy k_intS (by rfl) T.n_int (by decide +kernel) (pa_cons (pv 2) pa_nil))))))
    (pss_one (ps_ret (pv 1))))), go_fn h fun a W ha => ?_⟩)
  walk_at "st0"
  refine st_seq (st_asg (d := .int ((CodeM.num (a.take 0) : Nat) : Int)) ee_int (by walk_at "lt") ?_)
  walk_at "fr"
  refine st_seq (st_for (α := Unit) (ei_bits (l := a) (ee_var rfl)) (fun i _ => [.v (.str (bs a)), .v (.int ((CodeM.num (a.take i) : Nat) : Int)), .no]) (fun _ _ => True) ⟨(), Fle.refl _, trivial⟩ ?_ ?_)
  · rintro i d - hi -
    rw [List.getElem?_map] at hi
    cases eb : a[i]? with
    | none => rw [eb] at hi; cases hi
    | some b =>
      rw [eb] at hi
      have hd : D.str (bs [b]) = d := Option.some.inj hi
      subst hd
      refine ⟨_, _, eg_name (by walk_at "lt"), ?_⟩
      walk_at "fr"
      refine st_asg (ee_op (ee_op ee_int (ee_var rfl) rb_mul2N) (ee_cb (by walk_at "ea") rc_intBit) rb_addN) (by walk_at "lt") ?_
      walk_at "fr"
      exact ⟨(), .keep rfl (.keep (by rw [num_take eb]) (.drop (Fle.refl _))), trivial⟩
  · rintro - -
    rw [List.length_map, List.take_of_length_le (Nat.le_refl _)]
    exact st_ret (ee_var rfl) rfl
theorem rb_divA {K : PySem.W.Frag} {a b : Nat} (h : 1 ≤ b) (h2 : b ≤ 4) : Rb K rDivG (.int (a : Nat)) (.int (b : Nat)) (.int ((a / b : Nat) : Int)) := rb_divN (by omega) (Nat.lt_of_le_of_lt h2 (Nat.lt_of_lt_of_le (show 4 < 2 ^ 3 by decide) (Nat.pow_le_pow_right (by decide) (by decide))))
abbrev sp_near_row (K : PySem.W.Frag) (B : Adr) : Sp := spA2 K (fun (c : CodeM) (l : List Bool) => [codeD B.Code c, .str (bs l)]) (fun c l => Wf c ∧ l.length ≤ 9000) (fun c l => .ok (.int (c.rows.length + l.length / c.again.length + 2 : Nat)))
abbrev sp_taken (K : PySem.W.Frag) (B : Adr) : Sp := spA2 K (fun (c : CodeM) (l : List Bool) => [codeD B.Code c, .str (bs l)]) (fun c l => Wf c ∧ c.Free ∧ l.length ≤ 9000) (fun c l => .ok (.tup (tkD c l)))
/-! ### lists -/
theorem join_bss : ∀ ls : List (List Bool), Txt.join "" (ls.map bs) = bs ls.flatten := fun ls => by
  rw [TL.join_eq]
  induction ls with
  | nil => rfl
  | cons a ls ih =>
    cases ls with
    | nil =>
      show bs a = _
      rw [List.flatten_cons, List.flatten_nil, List.append_nil]
    | cons b ls =>
      show bs a ++ ("" : Str) ++ Str.join "" ((b :: ls).map bs) = _
      rw [ih, bs_nil, bs_app, bs_app, List.append_nil, List.flatten_cons (l := a)]
theorem sum_lens : ∀ ls : List (List Bool), ((ls.map bs).map (·.length)).sum = ls.flatten.length
  | [] => rfl
  | a :: ls => by
    rw [List.map_cons, List.map_cons, List.sum_cons, sum_lens ls, bs_len, List.flatten_cons, List.length_append]
theorem rm_joinL {K : PySem.W.Frag} {ls : List (List Bool)} (hz : ls.flatten.length ≤ 1000000) : Rm K (rJoin K) (.str "") [.lst (ls.map fun l => .str (bs l))] (.str (bs ls.flatten)) := by
  have h := join_strs (K := K) (s := "") (ys := ls.map bs) (by
    have e0 : ("" : Str).length = 0 := by decide
    rw [sum_lens, e0]; omega)
  rw [join_bss, List.map_map] at h
  exact h
def codes (c : CodeM) (ns : List Nat) : List Bool := (ns.map c.bits).flatten
abbrev intL (ns : List Nat) : D := .lst (ns.map fun n => .int (n : Nat))
abbrev sp_write_list (K : PySem.W.Frag) (B : Adr) : Sp := spA2 K (fun (c : CodeM) (ns : List Nat) => [codeD B.Code c, intL ns]) (fun c ns => Wf c ∧ (∀ n ∈ ns, NOk c n) ∧ ns.length ≤ 1000 ∧ (codes c ns).length ≤ 100000) (fun c ns => if freeB c = true then .ok (.str (bs (codes c ns))) else .err (.ref B.NotFree) none)
theorem free_of_ok {c : CodeM} {B : Adr} {x y : D} (h : (if freeB c = true then Res.ok x else Res.err (.ref B.NotFree) none) = .ok y) : freeB c = true := by
  cases e : freeB c with
  | true => rfl
  | false => rw [e] at h; cases h
theorem err_of {c : CodeM} {B : Adr} {x y : D} {C : Value} {o : Option Int} (h : (if freeB c = true then Res.ok x else Res.err (.ref B.NotFree) none) = .err C o) : (if freeB c = true then Res.ok y else Res.err (.ref B.NotFree) none) = .err C o := by
  cases e : freeB c with
  | true => rw [e] at h; cases h
  | false => rw [e] at h; exact h
noncomputable def rdF (c : CodeM) : Nat → List Bool → List Nat × List Bool × Str
  | 0, l => ([], l, "whole")
  | f + 1, l => if l = [] then ([], [], "whole") else match c.tkn l with
    | some n => (n :: (rdF c f (l.drop (c.size n))).1, (rdF c f (l.drop (c.size n))).2)
    | none => ([], l, c.wrd l)
noncomputable def rd (c : CodeM) (l : List Bool) : List Nat × List Bool × Str := rdF c l.length l
theorem rdF_nil {c : CodeM} (f : Nat) : rdF c f [] = ([], [], ("whole" : Str)) := by cases f <;> simp [rdF]
abbrev rdD (p : List Nat × List Bool × Str) : D := .tup [intL p.1, .str (bs p.2.1), .str p.2.2]
abbrev sp_read_list (K : PySem.W.Frag) (B : Adr) : Sp := spA2 K (fun (c : CodeM) (l : List Bool) => [codeD B.Code c, .str (bs l)]) (fun c l => Wf c ∧ l.length ≤ 9000) (fun c l => if freeB c = true then .ok (rdD (rd c l)) else .err (.ref B.NotFree) none)
@[reducible] def prN (p : Nat × Nat) : D := .tup [.int (p.1 : Nat), .int (p.2 : Nat)]

/-! ### what begins with bits -/
namespace CodeM
variable {c : CodeM} {l : List Bool}
noncomputable def stN (c : CodeM) (l : List Bool) : Option Nat := lst fun n => l <+: c.bits n
theorem wr_none {r : Nat} (h : c.wr r l = none) {n : Nat} (hn : c.rowOf n = r) : ¬ l <+: c.bits n := fun z => by
  obtain ⟨p, hp, _⟩ := (wr_iff hn).mp z
  rw [h] at hp; cases hp
theorem st_row (h1 : 1 ≤ c.again.length) {m : Nat} (h : c.stN l = some m) : ∃ r q, r < c.rows.length + l.length / c.again.length + 2 ∧ c.wr r l = some (m, q) := by
  obtain ⟨a, b⟩ := lst_some h
  obtain ⟨p, hp, p1, p2⟩ := (wr_iff rfl).mp a
  have hw := (wr_has hp).2
  have e : p.1 = m := by
    rcases Nat.lt_or_ge p.1 m with z | z
    · exact absurd hw (b _ z)
    · omega
  obtain ⟨q, hq⟩ : ∃ q, q = l.length / c.again.length := ⟨_, rfl⟩
  rw [← hq]
  refine ⟨c.rowOf m, p.2, ?_, by rw [hp, ← e]⟩
  rcases Nat.lt_or_ge (c.rowOf m) (c.rows.length + q + 2) with z | z
  · exact z
  · have := near_has h1 (i := q + 1) (by omega) (by omega) a (q + 1) (by omega)
    have hlt : c.first (c.rows.length + (q + 1)) < m := Nat.lt_of_lt_of_le (first_smono (by omega)) (rowOf_ok m).1
    refine absurd ?_ (b _ hlt)
    unfold bits
    rw [rowOf_first]
    exact this.trans (List.prefix_append _ _)
def rowsN (c : CodeM) (l : List Bool) (N : Nat) : List (Nat × Nat) := (List.range N).filterMap fun r => c.wr r l
theorem mem_rowsN {N : Nat} {p : Nat × Nat} : p ∈ c.rowsN l N ↔ ∃ r, r < N ∧ c.wr r l = some p := by
  unfold rowsN
  rw [List.mem_filterMap]
  constructor
  · rintro ⟨r, h1, h2⟩; exact ⟨r, List.mem_range.mp h1, h2⟩
  · rintro ⟨r, h1, h2⟩; exact ⟨r, List.mem_range.mpr h1, h2⟩
theorem rowsN_none {N : Nat} (h : c.stN l = none) : c.rowsN l N = [] := by
  rw [List.eq_nil_iff_forall_not_mem]
  intro p hp
  obtain ⟨r, _, hr⟩ := mem_rowsN.mp hp
  exact lst_none h _ (wr_has hr).2
theorem rowsN_some (h1 : 1 ≤ c.again.length) {N m : Nat} (hN : c.rows.length + l.length / c.again.length + 2 ≤ N) (h : c.stN l = some m) : m ∈ (c.rowsN l N).map (·.1) ∧ ∀ x ∈ (c.rowsN l N).map (·.1), m ≤ x := by
  obtain ⟨r, q, hr, hw⟩ := st_row h1 h
  refine ⟨List.mem_map.mpr ⟨(m, q), mem_rowsN.mpr ⟨r, Nat.lt_of_lt_of_le hr hN, hw⟩, rfl⟩, fun x hx => ?_⟩
  obtain ⟨p, hp, rfl⟩ := List.mem_map.mp hx
  obtain ⟨s, _, hs⟩ := mem_rowsN.mp hp
  rcases Nat.lt_or_ge p.1 m with z | z
  · exact absurd (wr_has hs).2 ((lst_some h).2 _ z)
  · exact z
/-- bits that rows without end begin with -/
def Inf (c : CodeM) (l : List Bool) : Prop := l <+: c.head (c.rows.length + (l.length / c.again.length + 1))
theorem inf_row (h1 : 1 ≤ c.again.length) {j : Nat} (hj : l.length / c.again.length + 1 ≤ j) : (∃ p, c.wr (c.rows.length + j) l = some p) ↔ c.Inf l := by
  rw [wr_far h1 hj]
  constructor
  · rintro ⟨p, hp⟩
    split at hp
    · rename_i z; exact far_like h1 hj (Nat.le_refl _) (pre_iff'.mp z)
    · cases hp
  · intro h
    rw [if_pos (pre_iff'.mpr (far_like h1 (Nat.le_refl _) hj h))]
    exact ⟨_, rfl⟩
theorem rows_more (h1 : 1 ≤ c.again.length) (h : ¬ c.Inf l) : ∀ e, c.rowsN l (c.rows.length + (l.length / c.again.length + 1) + e) = c.rowsN l (c.rows.length + (l.length / c.again.length + 1))
  | 0 => rfl
  | e + 1 => by
    rw [← rows_more h1 h e]
    show (List.range (c.rows.length + (l.length / c.again.length + 1) + e + 1)).filterMap _ = _
    rw [List.range_succ, List.filterMap_append]
    have : c.wr (c.rows.length + (l.length / c.again.length + 1) + e) l = none := by
      cases q : c.wr (c.rows.length + (l.length / c.again.length + 1) + e) l with
      | none => rfl
      | some p => exact absurd ((inf_row h1 (j := l.length / c.again.length + 1 + e) (by omega)).mp ⟨p, by rw [← Nat.add_assoc]; exact q⟩) h
    rw [List.filterMap_cons, this]
    simp [rowsN]
open Classical in
noncomputable def hmN (c : CodeM) (l : List Bool) : Option Nat := if c.Inf l then none else some ((c.rowsN l (c.rows.length + (l.length / c.again.length + 1))).map (·.2)).sum
theorem hm_inf (h : c.Inf l) : c.hmN l = none := if_pos h
theorem hm_fin (h1 : 1 ≤ c.again.length) (h : ¬ c.Inf l) {N : Nat} (hN : c.rows.length + l.length / c.again.length + 1 ≤ N) : c.hmN l = some ((c.rowsN l N).map (·.2)).sum := by
  obtain ⟨e, rfl⟩ : ∃ e, N = c.rows.length + (l.length / c.again.length + 1) + e := ⟨N - (c.rows.length + (l.length / c.again.length + 1)), by omega⟩
  rw [rows_more h1 h]
  exact if_neg h
open Classical in
noncomputable def wholeB (c : CodeM) (l : List Bool) : Bool := decide (∃ n, c.bits n <+: l)
open Classical in
noncomputable def deadB (c : CodeM) (l : List Bool) : Bool := decide (¬ (∃ n, l <+: c.bits n) ∧ ¬ ∃ n, c.bits n <+: l)
theorem whole_yes {r : Nat} (h : c.head r <+: l) (hk : (c.head r).length + c.kk r ≤ l.length) : c.wholeB l = true := by
  unfold wholeB
  simp only [decide_eq_true_eq]
  obtain ⟨_, he⟩ := bits_row (c := c) (r := r) (w := (l.drop (c.head r).length).take (c.kk r)) (by rw [List.length_take, List.length_drop]; omega)
  refine ⟨c.first r + num ((l.drop (c.head r).length).take (c.kk r)), ?_⟩
  rw [he]
  obtain ⟨t, rfl⟩ := h
  rw [List.prefix_append_right_inj, List.drop_left]
  exact List.take_prefix _ _
theorem whole_no (h : ∀ r, c.head r <+: l → l.length < (c.head r).length + c.kk r) : c.wholeB l = false := by
  unfold wholeB
  simp only [decide_eq_false_iff_not]
  rintro ⟨n, hn⟩
  have h1 := h _ ((head_bits n).trans hn)
  have h2 := hn.length_le
  rw [bits_len] at h2
  unfold size at h2; omega
theorem st_isNone : (c.stN l).isNone = true ↔ ¬ ∃ n, l <+: c.bits n := by
  cases e : c.stN l with
  | none => exact ⟨fun _ ⟨n, h⟩ => lst_none e n h, fun _ => rfl⟩
  | some m => exact ⟨fun z => (nomatch z), fun z => absurd ⟨m, (lst_some e).1⟩ z⟩
theorem dead_eq : c.deadB l = ((c.stN l).isNone && !c.wholeB l) := by
  rw [Bool.eq_iff_iff, Bool.and_eq_true, st_isNone]
  unfold deadB wholeB
  simp only [decide_eq_true_eq, Bool.not_eq_true', decide_eq_false_iff_not]
/-! dead bits -/
theorem dead_not_whole (h : c.deadB l = true) : c.wholeB l = false := by
  rw [dead_eq, Bool.and_eq_true] at h; simpa using h.2
theorem whole_up {m : List Bool} (h : c.wholeB l = true) (hp : l <+: m) : c.wholeB m = true := by
  unfold wholeB at h ⊢
  simp only [decide_eq_true_eq] at h ⊢
  obtain ⟨n, hn⟩ := h
  exact ⟨n, hn.trans hp⟩
theorem dead_up {m : List Bool} (h : c.deadB l = true) (hp : l <+: m) : c.deadB m = true := by
  unfold deadB at h ⊢
  simp only [decide_eq_true_eq] at h ⊢
  refine ⟨fun ⟨n, hn⟩ => h.1 ⟨n, hp.trans hn⟩, fun ⟨n, hn⟩ => ?_⟩
  rcases pre_both hn hp with z | z
  · exact h.2 ⟨n, z⟩
  · exact h.1 ⟨n, z⟩
end CodeM
def ext (xs : List (List Bool)) : List (List Bool) := xs.flatMap fun b => [b ++ [false], b ++ [true]]
def allB : Nat → List (List Bool)
  | 0 => [[]]
  | t + 1 => ext (allB t)
theorem ext_cons (b : List Bool) (xs : List (List Bool)) : ext (b :: xs) = (b ++ [false]) :: (b ++ [true]) :: ext xs := rfl
theorem filter_ext (p q : List Bool → Bool) : ∀ xs : List (List Bool), (ext (xs.filter q)).filter p = (ext xs).filter fun b => p b && q b.dropLast
  | [] => rfl
  | b :: xs => by
    have ih := filter_ext p q xs
    rw [ext_cons, List.filter_cons, List.filter_cons, List.filter_cons, List.dropLast_concat, List.dropLast_concat]
    cases hq : q b with
    | true =>
      rw [if_pos rfl, ext_cons, List.filter_cons, List.filter_cons, ih, Bool.and_true, Bool.and_true]
    | false =>
      rw [if_neg (by decide), ih, Bool.and_false, Bool.and_false, if_neg (by decide), if_neg (by decide)]
noncomputable def aliveL (c : CodeM) (t : Nat) : List (List Bool) := (allB t).filter fun b => !c.deadB b && !c.wholeB b
noncomputable def deadAt (c : CodeM) (t : Nat) : List (List Bool) := (allB (t + 1)).filter fun b => c.deadB b && !c.deadB b.dropLast
noncomputable def deadL (c : CodeM) : Nat → List (List Bool)
  | 0 => []
  | t + 1 => deadL c t ++ deadAt c t
theorem alive_zero {c : CodeM} (hf : c.Free) : aliveL c 0 = [[]] := by
  have h1 : c.deadB [] = false := by
    unfold CodeM.deadB
    simp only [decide_eq_false_iff_not]
    exact fun h => h.1 ⟨0, List.nil_prefix⟩
  have h2 : c.wholeB [] = false := CodeM.whole_no fun r hr => by have h1 := CodeM.head_pos hf r; have h2 := hr.length_le; rw [List.length_nil] at h2; omega
  show ([[]] : List (List Bool)).filter _ = _
  rw [List.filter_cons, h1, h2]; rfl
theorem dead_step {c : CodeM} (t : Nat) : (ext (aliveL c t)).filter c.deadB = deadAt c t := by
  unfold aliveL deadAt
  rw [filter_ext]
  show (allB (t + 1)).filter _ = _
  refine List.filter_congr fun b _ => ?_
  cases h : c.deadB b with
  | false => rfl
  | true =>
    have : c.wholeB b.dropLast = false := by
      cases e : c.wholeB b.dropLast with
      | false => rfl
      | true =>
        have := CodeM.whole_up e (List.dropLast_prefix b)
        rw [CodeM.dead_not_whole h] at this; cases this
    rw [this]; simp
theorem alive_step {c : CodeM} (t : Nat) : (ext (aliveL c t)).filter (fun b => !c.deadB b && !c.wholeB b) = aliveL c (t + 1) := by
  unfold aliveL
  rw [filter_ext]
  show (allB (t + 1)).filter _ = _
  refine List.filter_congr fun b _ => ?_
  cases h1 : c.deadB b with
  | true => rfl
  | false =>
    cases h2 : c.wholeB b with
    | true => rfl
    | false =>
      have e1 : c.deadB b.dropLast = false := by
        cases e : c.deadB b.dropLast with
        | false => rfl
        | true => have := CodeM.dead_up e (List.dropLast_prefix b); rw [h1] at this; cases this
      have e2 : c.wholeB b.dropLast = false := by
        cases e : c.wholeB b.dropLast with
        | false => rfl
        | true => have := CodeM.whole_up e (List.dropLast_prefix b); rw [h2] at this; cases this
      rw [e1, e2]; rfl
theorem len_ext {t : Nat} : ∀ {xs : List (List Bool)}, (∀ b ∈ xs, b.length = t) → ∀ b ∈ ext xs, b.length = t + 1
  | [], _, b, hb => nomatch hb
  | x :: xs, h, b, hb => by
    rw [ext_cons] at hb
    have hx := h x List.mem_cons_self
    rcases List.mem_cons.mp hb with rfl | hb
    · rw [List.length_append, hx]; rfl
    · rcases List.mem_cons.mp hb with rfl | hb
      · rw [List.length_append, hx]; rfl
      · exact len_ext (fun y hy => h y (List.mem_cons_of_mem _ hy)) b hb
theorem all_len : ∀ t, ∀ b ∈ allB t, b.length = t
  | 0, b, hb => by rw [List.mem_singleton.mp hb]; rfl
  | t + 1, b, hb => len_ext (all_len t) b hb
theorem ext_size (xs : List (List Bool)) : (ext xs).length = 2 * xs.length := by
  induction xs with
  | nil => rfl
  | cons b xs ih => rw [ext_cons, List.length_cons, List.length_cons, ih, List.length_cons]; omega
theorem all_size : ∀ t, (allB t).length = 2 ^ t
  | 0 => rfl
  | t + 1 => by show (ext (allB t)).length = _; rw [ext_size, all_size t, Nat.pow_succ, Nat.mul_comm]
theorem alive_size (c : CodeM) {t : Nat} (ht : t ≤ 10) : (aliveL c t).length ≤ 1024 := by
  have h1 := List.length_filter_le (fun b => !c.deadB b && !c.wholeB b) (allB t)
  rw [all_size] at h1
  exact Nat.le_trans h1 (Nat.pow_le_pow_right (by decide) ht)
theorem alive_len (c : CodeM) {t : Nat} : ∀ b ∈ aliveL c t, b.length = t := fun b hb => all_len t b (List.mem_filter.mp hb).1
theorem dead_size (c : CodeM) : ∀ {t : Nat}, t ≤ 10 → (deadL c t).length ≤ 2048 * t
  | 0, _ => Nat.le_refl _
  | t + 1, h => by
    have h0 := dead_size c (t := t) (by omega)
    have h1 := List.length_filter_le (fun b => c.deadB b && !c.deadB b.dropLast) (allB (t + 1))
    rw [all_size] at h1
    have h2 : 2 ^ (t + 1) ≤ 2 ^ 10 := Nat.pow_le_pow_right (by decide) h
    show (deadL c t ++ deadAt c t).length ≤ _
    rw [List.length_append]
    unfold deadAt
    omega
def wrD (o : Option (Nat × Nat)) : D := match o with
  | none => .non
  | some p => prN p
abbrev strB (b : List Bool) : D := .str (bs b)
abbrev sp_within_row (K : PySem.W.Frag) (B : Adr) : Sp := spA3 K (fun (c : CodeM) (r : Nat) (l : List Bool) => [codeD B.Code c, .int (r : Nat), .str (bs l)]) (fun c r l => Wf c ∧ r ≤ 2000 ∧ l.length ≤ 1000) (fun c r l => .ok (wrD (c.wr r l)))
theorem ok_within_row (T : Txt K mg B) : Ok P w K mg base CX0 4 "within_row" ["code", "r", "bits"] (sp_within_row K B) := by
  refine T.d_within_row.ok sc_within_row (spA_len fun _ => rfl) (fun f cdv A outer s H vs Q E hr h => ⟨_, (pss_cons (ps_asg (pe_callH (ok_row_at T) (hr.mono (by first | decide | omega)) rfl pass0 (pa_cons (pv 0) (pa_cons (pv 1) pa_nil))) (k_tup (n := 2) K rfl rfl (pgs_cons (pg_name (i := 3) sc_within_row.nd rfl (Or.inl rfl)) (pgs_cons (pg_name (i := 4) sc_within_row.nd rfl (Or.inl rfl)) pgs_nil))))
    (pss_cons (ps_if (k_tru K rfl (pe_m1 PySem.F.slot_str_startswith PySem.F.type_str_startswith mt_startswith (pv 3) (pv 2))) (pss_one (ps_ret (pe_tup (pa_cons (pe_callH (ok_first_number T) (hr.mono (by first | decide | omega)) rfl pass0 (pa_cons (pv 0) (pa_cons (pv 1) pa_nil))) (pa_cons (pe_callH (ok_power T) (hr.mono (by first | decide | omega)) rfl pass0 (pa_cons (pv 4) pa_nil)) pa_nil))))) pss_nil)
    (pss_cons (ps_set (i := 5) sc_within_row.nd rfl (Or.inl rfl) (pe_slice (k_sl K rfl) (pv 2) (po_some (pe_callB (k_len K rfl) (by rfl) T.n_len (by decide +kernel) (pa_cons (pv 3) pa_nil))) po_none))
    (pss_cons (ps_if (PW.pt (pw_or (pt_not (k_tru K rfl (pe_m1 PySem.F.slot_str_startswith PySem.F.type_str_startswith mt_startswith (pv 2) (pv 3)))) (pw_or1 (pt_cmpR op_gtG (pe_callB (k_len K rfl) (by rfl) T.n_len (by decide +kernel) (pa_cons (pv 5) pa_nil)) (pv 4) (nomark _))))) (pss_one (ps_ret pe_non)) pss_nil)
    (pss_one (ps_ret (pe_tup (pa_cons (pe_op (k_add K rfl) (pe_callH (ok_first_number T) (hr.mono (by first | decide | omega)) rfl pass0 (pa_cons (pv 0) (pa_cons (pv 1) pa_nil))) (pe_op (k_mul K rfl) (pe_callH (ok_number_of T) (hr.mono (by first | decide | omega)) rfl pass0 (pa_cons (pv 5) pa_nil)) (pe_callH (ok_power T) (hr.mono (by first | decide | omega)) rfl pass0 (pa_cons (pe_op op_subG (pv 4) (pe_callB (k_len K rfl) (by rfl) T.n_len (by decide +kernel) (pa_cons (pv 5) pa_nil))) pa_nil)))) (pa_cons (pe_callH (ok_power T) (hr.mono (by first | decide | omega)) rfl pass0 (pa_cons (pe_op op_subG (pv 4) (pe_callB (k_len K rfl) (by rfl) T.n_len (by decide +kernel) (pa_cons (pv 5) pa_nil))) pa_nil)) pa_nil))))))))), go_fn h fun a W ha => ?_⟩)
  obtain ⟨c, r, L⟩ := a
  dsimp only at ha
  obtain ⟨wf, hr0, hL⟩ := ha
  have hhb := head_bd wf (show r ≤ c.rows.length + 16000 by omega)
  have hkb := kk_bd2 wf (show r ≤ 10000 by omega)
  walk_at "st0"
  refine st_seq (st_asgG (ee_call2 (x := c) (y := r) (by walk_at "ea") rfl ⟨wf, by omega⟩ rfl) (by walk_at "un2") ?_)
  walk_at "fr"
  unfold CodeM.wr
  refine st_seq (st_if (et_tb (ee_startsB (a := c.head r) (b := L) (ee_var rfl) (ee_var rfl))) (fun hb => ?_) (fun hb => ?_))
  · rw [if_pos hb]
    exact st_ret (ee_tup (ea_cons (ee_call2 (x := c) (y := r) (by walk_at "ea") rfl ⟨wf, by omega⟩ rfl) (ea_cons (ee_call (a := c.kk r) (by walk_at "ea") rfl (by omega) rfl) ea_nil)) (by simp)) rfl
  · have hb' : ¬ L.isPrefixOf (c.head r) = true := by rw [hb]; decide
    rw [if_neg hb']
    refine st_next (st_seq (st_asg (d := .str (bs (L.drop (c.head r).length))) (ee_sl (ee_var rfl) (eo_some (ee_cb (by walk_at "ea") (rc_lenB (l := c.head r) (by omega)))) eo_none (rs_fromB (by omega))) (by walk_at "lt") ?_))
    walk_at "fr"
    have hdl : (L.drop (c.head r).length).length = L.length - (c.head r).length := List.length_drop
    refine st_seq (st_if (et_or (et_not (et_tb (ee_startsB (a := L) (b := c.head r) (ee_var rfl) (ee_var rfl)))) (fun _ => et_test (ee_op (ee_cb (by walk_at "ea") (rc_lenB (by omega))) (ee_var rfl) rb_gtN))) (fun hc => ?_) (fun hc => ?_))
    · have hc : ¬ ((c.head r).isPrefixOf L = true ∧ L.length - (c.head r).length ≤ c.kk r) := by
        rintro ⟨z1, z2⟩
        have : (!(c.head r).isPrefixOf L || decide ((c.row r).2 < (L.drop (c.head r).length).length)) = true := hc
        rw [z1, hdl, decide_eq_false (show ¬ (c.row r).2 < L.length - (c.head r).length from Nat.not_lt.mpr z2)] at this
        cases this
      rw [if_neg hc]
      exact st_ret ee_non rfl
    · have hc : ((c.head r).isPrefixOf L = true ∧ L.length - (c.head r).length ≤ c.kk r) := by
        have h0 : (!(c.head r).isPrefixOf L || decide ((c.row r).2 < (L.drop (c.head r).length).length)) = false := hc
        rw [Bool.or_eq_false_iff] at h0
        have h2 := of_decide_eq_false h0.2
        rw [hdl] at h2
        exact ⟨by simpa using h0.1, Nat.not_lt.mp h2⟩
      rw [if_pos hc]
      obtain ⟨M, hM⟩ : ∃ M, M = L.drop (c.head r).length := ⟨_, rfl⟩
      rw [← hM] at hdl ⊢
      have hnum := CodeM.num_lt M
      have pw : ∀ {W E} {ds : Fm}, ds[4]? = some (.v (.int (c.kk r : Nat))) → ds[5]? = some (.v (.str (bs M))) → Ee ⟨K, none, E, W, fun _ => False⟩ (tCall (sp_power K B) [] E0 (tCons (tOp rSubG (tVar 4) (tCB (rLenG K) (tCons (tVar 5) tNil))) tNil)) ds (.int ((2 ^ (c.kk r - M.length) : Nat) : Int)) := fun h4 h5 => ee_call (a := c.kk r - M.length) (ea_cons (ee_op (ee_var h4) (ee_cb (ea_cons (ee_var h5) ea_nil) (rc_lenB (by omega))) (rb_subN (by omega))) ea_nil) rfl (by omega) rfl
      refine st_next (st_ret (ee_tup (ea_cons (ee_op (ee_call2 (x := c) (y := r) (by walk_at "ea") rfl ⟨wf, by omega⟩ rfl) (ee_op (ee_call (a := M) (by walk_at "ea") rfl (by omega) rfl) (pw rfl rfl) (rb_mulNW (M.length + 1) (c.kk r - M.length + 1) (Nat.lt_trans hnum (pw_lt _)) (pw_lt _) (by omega) (by omega) (by omega))) rb_addN) (ea_cons (pw rfl rfl) ea_nil)) (by simp)) ?_)
      rw [← hdl]; rfl
abbrev farN (c : CodeM) (l : List Bool) : Nat := c.rows.length + l.length / c.again.length + 2
theorem far_bd {c : CodeM} (wf : Wf c) {l : List Bool} (h : l.length ≤ 1000) : farN c l ≤ 1008 := by
  have := Nat.div_le_self l.length c.again.length
  have := wf.rl
  unfold farN; omega
abbrev sp_far_row (K : PySem.W.Frag) (B : Adr) : Sp := spA2 K (fun (c : CodeM) (l : List Bool) => [codeD B.Code c, .str (bs l)]) (fun c l => Wf c ∧ l.length ≤ 1000) (fun c l => .ok (.int (farN c l : Nat)))
theorem ok_far_row (T : Txt K mg B) : Ok P w K mg base CX0 1 "far_row" ["code", "bits"] (sp_far_row K B) := by
  refine T.d_far_row.ok sc_far_row (spA_len fun _ => rfl) (fun f cdv A outer s H vs Q E hr h => ⟨_, (pss_one (ps_ret (pe_op (k_add K rfl) (pe_op (k_add K rfl) (pe_callB (k_len K rfl) (by rfl) T.n_len (by decide +kernel) (pa_cons (k_fld K rfl (pv 0) rfl) pa_nil)) (pe_op op_divG (pe_callB (k_len K rfl) (by rfl) T.n_len (by decide +kernel) (pa_cons (pv 1) pa_nil)) (pe_callB (k_len K rfl) (by rfl) T.n_len (by decide +kernel) (pa_cons (pe_ix (k_ix K rfl) (k_fld K rfl (pv 0) rfl) pe_int (fun _ _ => rfl)) pa_nil)))) pe_int))), go_fn h fun a W ha => ?_⟩)
  obtain ⟨c, L⟩ := a
  dsimp only at ha
  obtain ⟨wf, hl⟩ := ha
  have hau := wf.au
  walk_at "st0"
  exact st_ret (ee_op (ee_op (ee_cb (ea_cons (by walk_at "ev") ea_nil) rc_lenM) (ee_op (ee_cb (by walk_at "ea") (rc_lenB (by omega))) (ee_cb (ea_cons (ee_op (by walk_at "ev") ee_int (rb_ixT rfl)) ea_nil) (rc_lenB (by omega))) (rb_divA wf.al wf.au)) rb_addN) ee_int rb_addN2) rfl
theorem filter_some {f : Nat → Option (Nat × Nat)} : ∀ xs : List Nat, (xs.filter fun r => (f r).isSome).map (fun r => wrD (f r)) = (xs.filterMap f).map prN
  | [] => rfl
  | x :: xs => by
    have ih := filter_some (f := f) xs
    rw [List.filter_cons, List.filterMap_cons]
    cases e : f x with
    | none => exact ih
    | some p =>
      show (wrD (f x)) :: _ = _
      rw [e]
      exact congrArg (_ :: ·) ih
abbrev sp_rows_with (K : PySem.W.Frag) (B : Adr) : Sp := spA2 K (fun (c : CodeM) (l : List Bool) => [codeD B.Code c, .str (bs l)]) (fun c l => Wf c ∧ l.length ≤ 1000) (fun c l => .ok (.lst ((c.rowsN l (farN c l + 1)).map prN)))
theorem ok_rows_with (T : Txt K mg B) : Ok P w K mg base CX0 5 "rows_with" ["code", "bits"] (sp_rows_with K B) := by
  refine T.d_rows_with.ok sc_rows_with (spA_len fun _ => rfl) (fun f cdv A outer s H vs Q E hr h => ⟨_, (pss_cons (ps_setLc (i := 2) (own := [("r", 3)]) rfl sc_rows_with.nd rfl rfl (sw_true rfl rfl rfl (by decide +kernel)) (pi_range1 rfl T.n_range (pa_cons (pe_op (k_add K rfl) (pe_callH (ok_far_row T) (hr.mono (by first | decide | omega)) rfl pass0 (pa_cons (pv 0) (pa_cons (pv 1) pa_nil))) pe_int) pa_nil)) (blkOk_by (own := [("r", 3)]) (N := nm_rows_with) (sc := defScope s_rows_with) (by decide +kernel)) (fun _ _ _ _ _ => (pg_name (i := 3) sc_rows_with.nd rfl (Or.inl rfl))) (fun _ _ _ _ _ => pts_nil) (fun _ _ _ _ _ => (pe_callH (ok_within_row T) (hr.mono (by first | decide | omega)) rfl pass0 (pa_cons (pv 0) (pa_cons (pv 3) (pa_cons (pv 1) pa_nil))))))
    (pss_one (ps_ret (pe_lc (own := [("row", 4)]) rfl sc_rows_with.nd (k_ilist K rfl (pv 2)) (blkOk_by (own := [("row", 4)]) (N := nm_rows_with) (sc := defScope s_rows_with) (by decide +kernel)) (fun _ _ _ _ _ => (pg_name (i := 4) sc_rows_with.nd rfl (Or.inl rfl))) (fun _ _ _ _ _ => pts_one (pt_cmpR op_nisG (pv 4) pe_non (nomark _))) (fun _ _ _ _ _ => (pv 4)))))), go_fn h fun a W ha => ?_⟩)
  obtain ⟨c, L⟩ := a
  dsimp only at ha
  obtain ⟨wf, hL⟩ := ha
  have hfb := far_bd wf hL
  obtain ⟨N, hN⟩ : ∃ N, N = farN c L + 1 := ⟨_, rfl⟩
  walk_at "st0"
  refine st_seq (st_asg (d := .lst ((List.range N).map fun r => wrD (c.wr r L))) (ee_lcA (ys := List.range N) (gD := fun r : Nat => D.int (r : Nat)) (js := [3]) (ei_rng1 (j := (N : Nat)) (ea_is (ea_cons (ee_op (ee_call2 (x := c) (y := L) (by walk_at "ea") rfl ⟨wf, hL⟩ rfl) ee_int rb_addN1) ea_nil) (by rw [hN])) (by omega) (by omega)) (fun r => wrD (c.wr r L)) (by rw [List.length_range]; omega) (by decide) (fun i r hr => ?_)) (by walk_at "lt") ?_)
  · have hm := List.mem_range.mp (List.mem_of_getElem? hr)
    exact ⟨_, eg_name (by walk_at "lt"), ee_call3 (x := c) (y := r) (z := L) (by walk_at "ea") rfl ⟨wf, by omega, hL⟩ rfl⟩
  walk_at "fr"
  refine st_ret (ee_lcF (ys := List.range N) (gD := fun r => wrD (c.wr r L)) (js := [4]) (ei_list (ee_var rfl)) (fun r => (c.wr r L).isSome) (fun r => wrD (c.wr r L)) (by rw [List.length_range]; omega) (by decide) (fun i r hr => ⟨_, eg_name (by walk_at "lt"), et_is (et_test (ee_op (ee_var rfl) ee_non rb_nis)) (by cases c.wr r L <;> rfl), fun _ => ee_var rfl⟩)) ?_
  rw [filter_some, hN]; rfl
abbrev sp_least_with (K : PySem.W.Frag) (B : Adr) : Sp := spA2 K (fun (c : CodeM) (l : List Bool) => [codeD B.Code c, .str (bs l)]) (fun c l => Wf c ∧ l.length ≤ 1000) (fun c l => .ok (optD (c.stN l)))
theorem ok_least_with (T : Txt K mg B) : Ok P w K mg base CX0 6 "least_with" ["code", "bits"] (sp_least_with K B) := by
  refine T.d_least_with.ok sc_least_with (spA_len fun _ => rfl) (fun f cdv A outer s H vs Q E hr h => ⟨_, (pss_cons (ps_set (i := 2) sc_least_with.nd rfl (Or.inl rfl) (pe_callH (ok_rows_with T) (hr.mono (by first | decide | omega)) rfl pass0 (pa_cons (pv 0) (pa_cons (pv 1) pa_nil))))
    (pss_one (ps_ret (pe_ifExp (k_tru K rfl (pv 2)) (pe_callB (k_min K rfl rfl) (by rfl) T.n_min (by decide +kernel) (pa_cons (pe_lc (own := [("row", 3)]) rfl sc_least_with.nd (k_ilist K rfl (pv 2)) (blkOk_by (own := [("row", 3)]) (N := nm_least_with) (sc := defScope s_least_with) (by decide +kernel)) (fun _ _ _ _ _ => (pg_name (i := 3) sc_least_with.nd rfl (Or.inl rfl))) (fun _ _ _ _ _ => pts_nil) (fun _ _ _ _ _ => (pe_ix (k_ix K rfl) (pv 3) pe_int (fun _ _ => rfl)))) pa_nil)) pe_non)))), go_fn h fun a W ha => ?_⟩)
  obtain ⟨c, L⟩ := a
  dsimp only at ha
  obtain ⟨wf, hL⟩ := ha
  have hfb := far_bd wf hL
  walk_at "st0"
  refine st_seq (st_asg (ee_call2 (x := c) (y := L) (by walk_at "ea") rfl ⟨wf, hL⟩ rfl) (by walk_at "lt") ?_)
  walk_at "fr"
  have hlen : (c.rowsN L (farN c L + 1)).length ≤ 1009 := by
    have := List.length_filterMap_le (fun r => c.wr r L) (List.range (farN c L + 1))
    rw [List.length_range] at this
    unfold CodeM.rowsN; omega
  cases e : c.stN L with
  | none =>
    rw [CodeM.rowsN_none e]
    exact st_ret (ee_if (et_truG (ee_var rfl) trivial) (fun z => nomatch z) (fun _ => ee_non)) rfl
  | some m =>
    obtain ⟨h1, h2⟩ := CodeM.rowsN_some wf.al (N := farN c L + 1) (by unfold farN; omega) e
    generalize c.rowsN L (farN c L + 1) = R at h1 h2 hlen ⊢
    refine st_ret (ee_if (et_truG (ee_var rfl) trivial) (fun _ => ee_cb (ea_cons (ee_is (ee_lcA (ys := R) (gD := prN) (js := [3]) (ei_list (ee_var rfl)) (fun p => .int (p.1 : Nat)) (by omega) (by decide) (fun i p hp => ⟨_, eg_name (by walk_at "lt"), ee_op (ee_var rfl) ee_int (rb_ixT rfl)⟩)) (y := .lst ((R.map (·.1)).map fun n : Nat => .int (n : Int))) (by rw [List.map_map]; rfl)) ea_nil) (rc_minL h1 h2)) (fun z => ?_)) rfl
    cases R with
    | nil => cases h1
    | cons => cases z
abbrev sp_count_with (K : PySem.W.Frag) (B : Adr) : Sp := spA2 K (fun (c : CodeM) (l : List Bool) => [codeD B.Code c, .str (bs l)]) (fun c l => Wf c ∧ l.length ≤ 1000) (fun c l => .ok (optD (c.hmN l)))
theorem ok_count_with (T : Txt K mg B) : Ok P w K mg base CX0 6 "count_with" ["code", "bits"] (sp_count_with K B) := by
  refine T.d_count_with.ok sc_count_with (spA_len fun _ => rfl) (fun f cdv A outer s H vs Q E hr h => ⟨_, (pss_cons (ps_if (pt_cmpR op_nisG (pe_callH (ok_within_row T) (hr.mono (by first | decide | omega)) rfl pass0 (pa_cons (pv 0) (pa_cons (pe_callH (ok_far_row T) (hr.mono (by first | decide | omega)) rfl pass0 (pa_cons (pv 0) (pa_cons (pv 1) pa_nil))) (pa_cons (pv 1) pa_nil)))) pe_non (nomark _)) (pss_one (ps_ret pe_non)) pss_nil)
    (pss_one (ps_ret (pe_callB (k_sum K rfl rfl) (by rfl) T.n_sum (by decide +kernel) (pa_cons (pe_lc (own := [("row", 2)]) rfl sc_count_with.nd (k_ilist K rfl (pe_callH (ok_rows_with T) (hr.mono (by first | decide | omega)) rfl pass0 (pa_cons (pv 0) (pa_cons (pv 1) pa_nil)))) (blkOk_by (own := [("row", 2)]) (N := nm_count_with) (sc := defScope s_count_with) (by decide +kernel)) (fun _ _ _ _ _ => (pg_name (i := 2) sc_count_with.nd rfl (Or.inl rfl))) (fun _ _ _ _ _ => pts_nil) (fun _ _ _ _ _ => (pe_ix (k_ix K rfl) (pv 2) pe_int (fun _ _ => rfl)))) pa_nil))))), go_fn h fun a W ha => ?_⟩)
  obtain ⟨c, L⟩ := a
  dsimp only at ha
  obtain ⟨wf, hL⟩ := ha
  have hfb := far_bd wf hL
  walk_at "st0"
  have hfar : (c.wr (farN c L) L).isSome = true ↔ c.Inf L := by
    rw [Option.isSome_iff_exists]
    exact CodeM.inf_row wf.al (j := L.length / c.again.length + 2) (by omega)
  refine st_seq (st_if (et_is (et_test (ee_op (ee_call3 (x := c) (y := farN c L) (z := L) (ea_cons (ee_var rfl) (ea_cons (ee_call2 (x := c) (y := L) (by walk_at "ea") rfl ⟨wf, hL⟩ rfl) (ea_cons (ee_var rfl) ea_nil))) rfl ⟨wf, by omega, hL⟩ rfl) ee_non rb_nis)) (b := (c.wr (farN c L) L).isSome) (by cases c.wr (farN c L) L <;> rfl)) (fun hb => ?_) (fun hb => ?_))
  · exact st_ret ee_non (by rw [CodeM.hm_inf (hfar.mp hb)]; rfl)
  · have hno : ¬ c.Inf L := fun z => by rw [hfar.mpr z] at hb; cases hb
    have hlen : (c.rowsN L (farN c L + 1)).length ≤ 1009 := by
      have := List.length_filterMap_le (fun r => c.wr r L) (List.range (farN c L + 1))
      rw [List.length_range] at this
      unfold CodeM.rowsN; omega
    refine st_next (st_ret (ee_cb (ea_cons (ee_lcA (ys := c.rowsN L (farN c L + 1)) (gD := prN) (js := [2]) (ei_list (ee_call2 (x := c) (y := L) (by walk_at "ea") rfl ⟨wf, hL⟩ rfl)) (fun p => .int (p.2 : Nat)) (by omega) (by decide) (fun i p hp => ⟨_, eg_name (by walk_at "lt"), ee_op (ee_var rfl) ee_int (rb_ixT rfl)⟩)) ea_nil) rc_sumN) ?_)
    rw [CodeM.hm_fin wf.al hno (N := farN c L + 1) (by unfold farN; omega)]; rfl
abbrev sp_starting (K : PySem.W.Frag) (B : Adr) : Sp := spA2 K (fun (c : CodeM) (l : List Bool) => [codeD B.Code c, .str (bs l)]) (fun c l => Wf c ∧ l.length ≤ 1000) (fun c l => if freeB c = true then .ok (optD (c.stN l)) else .err (.ref B.NotFree) none)
theorem ok_starting (T : Txt K mg B) : Ok P w K mg base (L2.CX P w) 7 "starting" ["code", "bits"] (sp_starting K B) := by
  refine T.d_starting.okX sc_starting (spA_len fun _ => rfl) (fun f cdv A outer s H vs Q E hr h => ⟨_, (pss_cons (ps_expr (pe_callH (ok_check_free T) (hr.mono (by first | decide | omega)) rfl (passes_call (takes_of rfl rfl rfl rfl) fun _ _ _ _ h => h) (pa_cons (pv 0) pa_nil)))
    (pss_one (ps_ret (pe_callH (ok_least_with T) (hr.mono (by first | decide | omega)) rfl pass0 (pa_cons (pv 0) (pa_cons (pv 1) pa_nil)))))), go_fn h fun a W ha => ?_⟩)
  obtain ⟨c, L⟩ := a
  dsimp only at ha
  obtain ⟨wf, hL⟩ := ha
  walk_at "st0"
  refine st_seq (st_call (a := c) (by walk_at "ea") rfl wf (fun d hd => ?_) (fun C o z => err_of z))
  have hb := free_of_ok hd
  rw [if_pos hb]
  exact st_ret (ee_call2 (x := c) (y := L) (by walk_at "ea") rfl ⟨wf, hL⟩ rfl) rfl
abbrev sp_how_many (K : PySem.W.Frag) (B : Adr) : Sp := spA2 K (fun (c : CodeM) (l : List Bool) => [codeD B.Code c, .str (bs l)]) (fun c l => Wf c ∧ l.length ≤ 1000) (fun c l => if freeB c = true then .ok (optD (c.hmN l)) else .err (.ref B.NotFree) none)
theorem ok_how_many (T : Txt K mg B) : Ok P w K mg base (L2.CX P w) 7 "how_many" ["code", "bits"] (sp_how_many K B) := by
  refine T.d_how_many.okX sc_how_many (spA_len fun _ => rfl) (fun f cdv A outer s H vs Q E hr h => ⟨_, (pss_cons (ps_expr (pe_callH (ok_check_free T) (hr.mono (by first | decide | omega)) rfl (passes_call (takes_of rfl rfl rfl rfl) fun _ _ _ _ h => h) (pa_cons (pv 0) pa_nil)))
    (pss_one (ps_ret (pe_callH (ok_count_with T) (hr.mono (by first | decide | omega)) rfl pass0 (pa_cons (pv 0) (pa_cons (pv 1) pa_nil)))))), go_fn h fun a W ha => ?_⟩)
  obtain ⟨c, L⟩ := a
  dsimp only at ha
  obtain ⟨wf, hL⟩ := ha
  walk_at "st0"
  refine st_seq (st_call (a := c) (by walk_at "ea") rfl wf (fun d hd => ?_) (fun C o z => err_of z))
  have hb := free_of_ok hd
  rw [if_pos hb]
  exact st_ret (ee_call2 (x := c) (y := L) (by walk_at "ea") rfl ⟨wf, hL⟩ rfl) rfl
abbrev sp_is_whole_in (K : PySem.W.Frag) (B : Adr) : Sp := spA2 K (fun (c : CodeM) (l : List Bool) => [codeD B.Code c, .str (bs l)]) (fun c l => Wf c ∧ l.length ≤ 1000) (fun c l => .ok (.bl (c.wholeB l)))
theorem ok_is_whole_in (T : Txt K mg B) : Ok P w K mg base CX0 2 "is_whole_in" ["code", "bits"] (sp_is_whole_in K B) := by
  refine T.d_is_whole_in.ok sc_is_whole_in (spA_len fun _ => rfl) (fun f cdv A outer s H vs Q E hr h => ⟨_, (pss_cons (ps_for PassesOwn.never rfl (pi_range1 rfl T.n_range (pa_cons (pe_op (k_add K rfl) (pe_callH (ok_far_row T) (hr.mono (by first | decide | omega)) rfl pass0 (pa_cons (pv 0) (pa_cons (pv 1) pa_nil))) pe_int) pa_nil)) (pg_name (i := 2) sc_is_whole_in.nd rfl (Or.inl rfl)) (pss_cons (ps_asg (pe_callH (ok_row_at T) (hr.mono (by first | decide | omega)) rfl pass0 (pa_cons (pv 0) (pa_cons (pv 2) pa_nil))) (k_tup (n := 2) K rfl rfl (pgs_cons (pg_name (i := 3) sc_is_whole_in.nd rfl (Or.inl rfl)) (pgs_cons (pg_name (i := 4) sc_is_whole_in.nd rfl (Or.inl rfl)) pgs_nil))))
    (pss_one (ps_if (PW.pt (pw_and (k_tru K rfl (pe_m1 PySem.F.slot_str_startswith PySem.F.type_str_startswith mt_startswith (pv 1) (pv 3))) (pw_and1 (pt_cmpR op_geG (pe_callB (k_len K rfl) (by rfl) T.n_len (by decide +kernel) (pa_cons (pv 1) pa_nil)) (pe_op (k_add K rfl) (pe_callB (k_len K rfl) (by rfl) T.n_len (by decide +kernel) (pa_cons (pv 3) pa_nil)) (pv 4)) (nomark _))))) (pss_one (ps_ret pe_bl)) pss_nil))))
    (pss_one (ps_ret pe_bl))), go_fn h fun a W ha => ?_⟩)
  obtain ⟨c, L⟩ := a
  dsimp only at ha
  obtain ⟨wf, hL⟩ := ha
  have hfb := far_bd wf hL
  obtain ⟨N, hN⟩ : ∃ N, N = farN c L + 1 := ⟨_, rfl⟩
  walk_at "st0"
  refine st_seq (st_for (α := Unit) (ei_rng1 (j := (N : Nat)) (ea_is (ea_cons (ee_op (ee_call2 (x := c) (y := L) (by walk_at "ea") rfl ⟨wf, hL⟩ rfl) ee_int rb_addN1) ea_nil) (by rw [hN])) (by omega) (by omega)) (fun _ _ => [.v (codeD B.Code c), .v (.str (bs L)), .no, .no, .no]) (fun i _ => ∀ r, r < i → c.head r <+: L → L.length < (c.head r).length + c.kk r) ⟨(), Fle.refl _, fun _ z => by omega⟩ ?_ ?_)
  · rintro i d - hi hI
    obtain ⟨rfl, hlt⟩ := upto_get hi
    have hlt : i < N := by omega
    have hhb := head_bd wf (show i ≤ c.rows.length + 16000 by omega)
    have hkb := kk_bd2 wf (show i ≤ 10000 by omega)
    refine ⟨_, _, eg_name (by walk_at "lt"), ?_⟩
    walk_at "fr"
    refine st_seq (st_asgG (ee_call2 (x := c) (y := i) (by walk_at "ea") rfl ⟨wf, by omega⟩ rfl) (by walk_at "un2") ?_)
    walk_at "fr"
    refine st_if (et_and (et_tb (ee_startsB (a := L) (b := c.head i) (ee_var rfl) (ee_var rfl))) (fun _ => et_test (ee_op (ee_cb (by walk_at "ea") (rc_lenB (by omega))) (ee_op (ee_cb (by walk_at "ea") (rc_lenB (l := c.head i) (by omega))) (ee_var rfl) rb_addN) rb_geN))) (fun hb => ?_) (fun hb => ?_)
    · rw [Bool.and_eq_true] at hb
      have h2 : (c.head i).length + c.kk i ≤ L.length := of_decide_eq_true hb.2
      exact st_ret ee_bl (by rw [CodeM.whole_yes (CodeM.pre_iff'.mp hb.1) h2])
    · refine st_next ⟨(), .keep rfl (.keep rfl (.drop (.drop (.drop .nil)))), fun r hr hp => ?_⟩
      rcases Nat.lt_or_ge r i with z | z
      · exact hI r z hp
      · have : r = i := by omega
        subst this
        refine Nat.lt_of_not_le fun q => ?_
        have h2 : decide ((c.head r).length + (c.row r).2 ≤ L.length) = true := decide_eq_true q
        rw [CodeM.pre_iff'.mpr hp, h2] at hb; cases hb
  · rintro - hI
    rw [upto_len, Int.toNat_natCast] at hI
    refine st_ret ee_bl ?_
    rw [CodeM.whole_no fun r hr => hI r (by have := CodeM.far_no wf.al hr; rw [hN]; unfold farN; omega) hr]
theorem isNonD_opt (o : Option Nat) : isNonD (optD o) = o.isNone := by cases o <;> rfl
abbrev sp_is_dead_in (K : PySem.W.Frag) (B : Adr) : Sp := spA2 K (fun (c : CodeM) (l : List Bool) => [codeD B.Code c, .str (bs l)]) (fun c l => Wf c ∧ l.length ≤ 1000) (fun c l => .ok (.bl (c.deadB l)))
theorem ok_is_dead_in (T : Txt K mg B) : Ok P w K mg base CX0 7 "is_dead_in" ["code", "bits"] (sp_is_dead_in K B) := by
  refine T.d_is_dead_in.ok sc_is_dead_in (spA_len fun _ => rfl) (fun f cdv A outer s H vs Q E hr h => ⟨_, (pss_one (ps_ret (pe_and (pe_cmpR op_isG (pe_callH (ok_least_with T) (hr.mono (by first | decide | omega)) rfl pass0 (pa_cons (pv 0) (pa_cons (pv 1) pa_nil))) pe_non (nomark _)) (pe_one (pe_not (pe_callH (ok_is_whole_in T) (hr.mono (by first | decide | omega)) rfl pass0 (pa_cons (pv 0) (pa_cons (pv 1) pa_nil)))))))), go_fn h fun a W ha => ?_⟩)
  obtain ⟨c, L⟩ := a
  dsimp only at ha
  walk_at "st0"
  rw [CodeM.dead_eq]
  exact st_ret (ee_is (ee_andV (ee_op (ee_call2 (x := c) (y := L) (by walk_at "ea") rfl ha rfl) ee_non rb_is) (fun _ => ee_notV (ee_call2 (x := c) (y := L) (by walk_at "ea") rfl ha rfl))) (by rw [isNonD_opt])) rfl
abbrev sp_is_dead (K : PySem.W.Frag) (B : Adr) : Sp := spA2 K (fun (c : CodeM) (l : List Bool) => [codeD B.Code c, .str (bs l)]) (fun c l => Wf c ∧ l.length ≤ 1000) (fun c l => if freeB c = true then .ok (.bl (c.deadB l)) else .err (.ref B.NotFree) none)
theorem ext_D : ∀ xs : List (List Bool), (xs.map strB).flatMap (fun x => ([false, true].map fun b => D.str (bs [b])).map (catD x)) = (ext xs).map strB
  | [] => rfl
  | b :: xs => by
    have ih := ext_D xs
    rw [ext_cons]
    show (strB b :: xs.map strB).flatMap _ = strB (b ++ [false]) :: strB (b ++ [true]) :: (ext xs).map strB
    rw [List.flatMap_cons, ih]
    show D.str (bs b ++ bs [false]) :: D.str (bs b ++ bs [true]) :: _ = _
    rw [bs_app, bs_app]; rfl
abbrev sp_dead (K : PySem.W.Frag) (B : Adr) : Sp := spA2 K (fun (c : CodeM) (n : Nat) => [codeD B.Code c, .int (n : Nat)]) (fun c n => Wf c ∧ n ≤ 10) (fun c n => if freeB c = true then .ok (.lst ((deadL c n).map strB)) else .err (.ref B.NotFree) none)
theorem ok_dead (T : Txt K mg B) : Ok P w K mg base (L2.CX P w) 8 "dead" ["code", "size"] (sp_dead K B) := by
  refine T.d_dead.okX sc_dead (spA_len fun _ => rfl) (fun f cdv A outer s H vs Q E hr h => ⟨_, (pss_cons (ps_expr (pe_callH (ok_check_free T) (hr.mono (by first | decide | omega)) rfl (passes_call (takes_of rfl rfl rfl rfl) fun _ _ _ _ h => h) (pa_cons (pv 0) pa_nil)))
    (pss_cons (ps_set (i := 2) sc_dead.nd rfl (Or.inl rfl) (pe_lst pa_nil))
    (pss_cons (ps_set (i := 3) sc_dead.nd rfl (Or.inl rfl) (pe_lst (pa_cons pe_str pa_nil)))
    (pss_cons (ps_for (passes_of rfl) rfl (pi_range1 rfl T.n_range (pa_cons (pv 1) pa_nil)) (pg_name (i := 4) sc_dead.nd rfl (Or.inl rfl)) (pss_cons (ps_setLc2 (i := 5) (own := [("bits", 6), ("bit", 7)]) (vs1 := [7]) rfl sc_dead.nd rfl rfl (sw_true rfl rfl rfl (by decide +kernel)) (k_ilist K rfl (pv 3)) (blkOk_by (own := [("bits", 6), ("bit", 7)]) (N := nm_dead) (sc := defScope s_dead) (by decide +kernel)) (by decide) (fun _ _ _ _ _ => (pg_name (i := 6) sc_dead.nd rfl (Or.inl rfl))) (fun _ _ _ _ _ => pts_nil) (fun _ _ _ _ _ => (pi_str pe_str)) (fun _ _ _ _ _ => (pg_name (i := 7) sc_dead.nd rfl (Or.inl rfl))) (fun _ _ _ _ _ => pts_nil) (fun _ _ _ _ _ => (pe_op (k_add K rfl) (pv 6) (pv 7))))
    (pss_cons (ps_set (i := 2) sc_dead.nd rfl (Or.inl rfl) (pe_op (k_add K rfl) (pv 2) (pe_lc (own := [("bits", 6)]) rfl sc_dead.nd (k_ilist K rfl (pv 5)) (blkOk_by (own := [("bits", 6)]) (N := nm_dead) (sc := defScope s_dead) (by decide +kernel)) (fun _ _ _ _ _ => (pg_name (i := 6) sc_dead.nd rfl (Or.inl rfl))) (fun _ _ _ _ _ => pts_one (k_tru K rfl (pe_callH (ok_is_dead_in T) (hr.mono (by first | decide | omega)) rfl pass0 (pa_cons (pv 0) (pa_cons (pv 6) pa_nil))))) (fun _ _ _ _ _ => (pv 6)))))
    (pss_one (ps_setLc (i := 3) (own := [("bits", 6)]) rfl sc_dead.nd rfl rfl (sw_true rfl rfl rfl (by decide +kernel)) (k_ilist K rfl (pv 5)) (blkOk_by (own := [("bits", 6)]) (N := nm_dead) (sc := defScope s_dead) (by decide +kernel)) (fun _ _ _ _ _ => (pg_name (i := 6) sc_dead.nd rfl (Or.inl rfl))) (fun _ _ _ _ _ => pts_one (PW.pt (pw_and (pt_not (k_tru K rfl (pe_callH (ok_is_dead_in T) (hr.mono (by first | decide | omega)) rfl pass0 (pa_cons (pv 0) (pa_cons (pv 6) pa_nil))))) (pw_and1 (pt_not (k_tru K rfl (pe_callH (ok_is_whole_in T) (hr.mono (by first | decide | omega)) rfl pass0 (pa_cons (pv 0) (pa_cons (pv 6) pa_nil))))))))) (fun _ _ _ _ _ => (pv 6)))))))
    (pss_one (ps_ret (pv 2))))))), go_fn h fun a W ha => ?_⟩)
  obtain ⟨c, N⟩ := a
  dsimp only at ha
  obtain ⟨wf, hN⟩ := ha
  walk_at "st0"
  refine st_seq (st_call (a := c) (by walk_at "ea") rfl wf (fun d hd => ?_) (fun C o z => err_of z))
  have hb := free_of_ok hd
  have hf := freeB_free hb
  rw [if_pos hb]
  refine st_seq (st_asg (d := .lst ((deadL c 0).map strB)) (ee_lst ea_nil (Nat.zero_le _)) (by walk_at "lt") ?_)
  walk_at "fr"
  refine st_seq (st_asg (d := .lst ((aliveL c 0).map strB)) (ee_is (ee_lst (ea_cons ee_str ea_nil) (by simp)) (by rw [alive_zero hf]; rfl)) (by walk_at "lt") ?_)
  walk_at "fr"
  refine st_seq (st_for (α := Unit) (ei_rng1 (j := (N : Nat)) (by walk_at "ea") (by omega) (by omega)) (fun i _ => [.v (codeD B.Code c), .v (.int (N : Nat)), .v (.lst ((deadL c i).map strB)), .v (.lst ((aliveL c i).map strB)), .no, .no, .no, .no]) (fun i _ => True) ⟨(), Fle.refl _, trivial⟩ ?_ ?_)
  · rintro i d - hi -
    obtain ⟨rfl, hlt⟩ := upto_get hi
    have hlt : i < N := by omega
    refine ⟨_, _, eg_name (by walk_at "lt"), ?_⟩
    walk_at "fr"
    have hsz := alive_size c (t := i) (by omega)
    have hdz := dead_size c (t := i) (by omega)
    have hel : ∀ b ∈ ext (aliveL c i), b.length = i + 1 := len_ext (alive_len c)
    have hes := ext_size (aliveL c i)
    refine st_seq (st_asg (d := .lst ((ext (aliveL c i)).map strB)) (ee_is (ee_lc2 (f := catD) (js := [6]) (js1 := [7]) (ei_list (ee_var rfl)) (by rw [List.length_map]; simp; omega) (by decide) (by decide) (fun k x hx => ?_)) (congrArg D.lst (ext_D _))) (by walk_at "lt") ?_)
    · rw [List.getElem?_map] at hx
      cases eb : (aliveL c i)[k]? with
      | none => rw [eb] at hx; cases hx
      | some b =>
        rw [eb] at hx
        have hd : strB b = x := Option.some.inj hx
        subst hd
        have hbl := alive_len c b (List.mem_of_getElem? eb)
        refine ⟨_, eg_name (by walk_at "lt"), rfl, ei_bits (l := [false, true]) (ee_is ee_str (by rw [lit_01])), fun k2 y hy => ?_⟩
        have hy2 : ∃ q : Bool, y = .str (bs [q]) := by
          match k2, hy with
          | 0, hy => cases hy; exact ⟨_, rfl⟩
          | 1, hy => cases hy; exact ⟨_, rfl⟩
          | k2 + 2, hy => simp at hy
        obtain ⟨q, rfl⟩ := hy2
        exact ⟨_, eg_name (by walk_at "lt"), ee_op (ee_var rfl) (ee_var rfl) (rb_addS (by rw [bs_len, bs_len]; simp; omega))⟩
    walk_at "fr"
    refine st_seq (st_asg (d := .lst ((deadL c (i + 1)).map strB)) (ee_is (ee_op (ee_var rfl) (ee_lcF (ys := ext (aliveL c i)) (gD := strB) (js := [6]) (ei_list (ee_var rfl)) c.deadB strB (by omega) (by decide) (fun k b hbk => ⟨_, eg_name (by walk_at "lt"), et_tb (ee_call2 (x := c) (y := b) (by walk_at "ea") rfl ⟨wf, by rw [hel b (List.mem_of_getElem? hbk)]; omega⟩ rfl), fun _ => ee_var rfl⟩)) (rb_addL (by rw [List.length_map, List.length_map, dead_step]; have := List.length_filter_le (fun b => c.deadB b && !c.deadB b.dropLast) (allB (i + 1)); rw [all_size] at this; have h2 : 2 ^ (i + 1) ≤ 2 ^ 10 := Nat.pow_le_pow_right (by decide) (by omega); unfold deadAt; omega))) (by rw [dead_step, ← List.map_append]; rfl)) (by walk_at "lt") ?_)
    walk_at "fr"
    refine st_asg (d := .lst ((aliveL c (i + 1)).map strB)) (ee_is (ee_lcF (ys := ext (aliveL c i)) (gD := strB) (js := [6]) (ei_list (ee_var rfl)) (fun b => !c.deadB b && !c.wholeB b) strB (by omega) (by decide) (fun k b hbk => ⟨_, eg_name (by walk_at "lt"), et_and (et_not (et_tb (ee_call2 (x := c) (y := b) (by walk_at "ea") rfl ⟨wf, by rw [hel b (List.mem_of_getElem? hbk)]; omega⟩ rfl))) (fun _ => et_not (et_tb (ee_call2 (x := c) (y := b) (by walk_at "ea") rfl ⟨wf, by rw [hel b (List.mem_of_getElem? hbk)]; omega⟩ rfl))), fun _ => ee_var rfl⟩)) (by rw [alive_step])) (by walk_at "lt") ?_
    walk_at "fr"
    exact ⟨(), .keep rfl (.keep rfl (.keep rfl (.keep rfl (.drop (.drop (.drop (.drop .nil))))))), trivial⟩
  · rintro - -
    rw [upto_len, Int.toNat_natCast]
    exact st_ret (ee_var rfl) rfl
def shT (c : CodeM) : Nat := (c.rows.map fun r => 2 ^ (8 - r.1.length)).sum * 2 ^ c.stop.length * (2 ^ c.again.length - 1) + 2 ^ 8 * 2 ^ c.again.length
def shB (c : CodeM) : Nat := 2 ^ 8 * 2 ^ c.stop.length * (2 ^ c.again.length - 1)
theorem sum_le {α : Type} {f : α → Nat} {m : Nat} : ∀ {xs : List α}, (∀ x ∈ xs, f x ≤ m) → (xs.map f).sum ≤ m * xs.length
  | [], _ => Nat.zero_le _
  | x :: xs, h => by
    have h1 := sum_le (xs := xs) fun y hy => h y (List.mem_cons_of_mem _ hy)
    have h2 := h x List.mem_cons_self
    rw [List.map_cons, List.sum_cons, List.length_cons, Nat.mul_succ]; omega
abbrev sp_share (K : PySem.W.Frag) (B : Adr) : Sp := spA K (fun c : CodeM => [codeD B.Code c]) (fun c => Wf c) (fun c => if freeB c = true then .ok (lowD (shT c) (shB c)) else .err (.ref B.NotFree) none)
theorem ok_share (T : Txt K mg B) : Ok P w K mg base (L2.CX P w) 5 "share" ["code"] (sp_share K B) := by
  refine T.d_share.okX sc_share (spA_len fun _ => rfl) (fun f cdv A outer s H vs Q E hr h => ⟨_, (pss_cons (ps_expr (pe_callH (ok_check_free T) (hr.mono (by first | decide | omega)) rfl (passes_call (takes_of rfl rfl rfl rfl) fun _ _ _ _ h => h) (pa_cons (pv 0) pa_nil)))
    (pss_cons (ps_asg (k_fld K rfl (pv 0) rfl) (k_tup (n := 4) K rfl rfl (pgs_cons (pg_name (i := 1) sc_share.nd rfl (Or.inl rfl)) (pgs_cons (pg_name (i := 2) sc_share.nd rfl (Or.inl rfl)) (pgs_cons (pg_name (i := 3) sc_share.nd rfl (Or.inl rfl)) (pgs_cons (pg_name (i := 4) sc_share.nd rfl (Or.inl rfl)) pgs_nil))))))
    (pss_cons (ps_set (i := 5) sc_share.nd rfl (Or.inl rfl) (pe_callB (k_len K rfl) (by rfl) T.n_len (by decide +kernel) (pa_cons (pv 1) pa_nil)))
    (pss_cons (ps_set (i := 6) sc_share.nd rfl (Or.inl rfl) (pe_op (k_mul K rfl) (pe_op (k_mul K rfl) (pe_callH (ok_power T) (hr.mono (by first | decide | omega)) rfl pass0 (pa_cons pe_int pa_nil)) (pe_callH (ok_power T) (hr.mono (by first | decide | omega)) rfl pass0 (pa_cons (pe_callB (k_len K rfl) (by rfl) T.n_len (by decide +kernel) (pa_cons (pv 2) pa_nil)) pa_nil))) (pe_op op_subG (pe_callH (ok_power T) (hr.mono (by first | decide | omega)) rfl pass0 (pa_cons (pv 5) pa_nil)) pe_int)))
    (pss_cons (ps_set (i := 7) sc_share.nd rfl (Or.inl rfl) (pe_op (k_mul K rfl) (pe_op (k_mul K rfl) (pe_callB (k_sum K rfl rfl) (by rfl) T.n_sum (by decide +kernel) (pa_cons (pe_lc (own := [("row", 8)]) rfl sc_share.nd (k_itup K rfl (k_fld K rfl (pv 0) rfl)) (blkOk_by (own := [("row", 8)]) (N := nm_share) (sc := defScope s_share) (by decide +kernel)) (fun _ _ _ _ _ => (pg_name (i := 8) sc_share.nd rfl (Or.inl rfl))) (fun _ _ _ _ _ => pts_nil) (fun _ _ _ _ _ => (pe_callH (ok_power T) (hr.mono (by first | decide | omega)) rfl pass0 (pa_cons (pe_op op_subG pe_int (pe_callB (k_len K rfl) (by rfl) T.n_len (by decide +kernel) (pa_cons (pe_ix (k_ix K rfl) (pv 8) pe_int (fun _ _ => rfl)) pa_nil))) pa_nil)))) pa_nil)) (pe_callH (ok_power T) (hr.mono (by first | decide | omega)) rfl pass0 (pa_cons (pe_callB (k_len K rfl) (by rfl) T.n_len (by decide +kernel) (pa_cons (pv 2) pa_nil)) pa_nil))) (pe_op op_subG (pe_callH (ok_power T) (hr.mono (by first | decide | omega)) rfl pass0 (pa_cons (pv 5) pa_nil)) pe_int)))
    (pss_one (ps_ret (pe_callH (ok_lowest T) (hr.mono (by first | decide | omega)) rfl pass0 (pa_cons (pe_op (k_add K rfl) (pv 7) (pe_op (k_mul K rfl) (pe_callH (ok_power T) (hr.mono (by first | decide | omega)) rfl pass0 (pa_cons pe_int pa_nil)) (pe_callH (ok_power T) (hr.mono (by first | decide | omega)) rfl pass0 (pa_cons (pv 5) pa_nil)))) (pa_cons (pv 6) pa_nil)))))))))), go_fn h fun a W ha => ?_⟩)
  have h1 := ha.al
  have h2 := ha.au
  have h3 := ha.sl
  have hrl := ha.rl
  have p1 : 2 ^ a.again.length ≤ 2 ^ 4 := pow_bd h2
  have p2 : 2 ^ a.stop.length ≤ 2 ^ 4 := pow_bd h3
  have p3 : 2 ^ 1 ≤ 2 ^ a.again.length := pow_bd h1
  have p4 := CodeM.pow_ge_one a.stop.length
  have hs := sum_le (f := fun r : List Bool × Nat => 2 ^ (8 - r.1.length)) (m := 2 ^ 8) (xs := a.rows) fun r _ => pow_bd (by omega)
  walk_at "st0"
  refine st_seq (st_call (a := a) (by walk_at "ea") rfl ha (fun d hd => ?_) (fun C o z => err_of z))
  have hb := free_of_ok hd
  rw [if_pos hb]
  refine st_seq (st_asgG (by walk_at "ev") (by walk_at "un4") ?_)
  walk_at "fr"
  refine st_seq (st_asg (ee_cb (by walk_at "ea") (rc_lenB (by omega))) (by walk_at "lt") ?_)
  walk_at "fr"
  have pw : ∀ {W E} {ds : Fm} {te : TE} {n : Nat}, n ≤ 100000 → Ee ⟨K, none, E, W, fun _ => False⟩ te ds (.int (n : Nat)) → ∀ {E2 : XK}, Ee ⟨K, none, E, W, fun _ => False⟩ (tCall (sp_power K B) [] E2 (tCons te tNil)) ds (.int ((2 ^ n : Nat) : Int)) := fun hn h => ee_call (a := _) (ea_cons h ea_nil) rfl hn rfl
  refine st_seq (st_asg (d := .int (shB a : Nat)) (ee_op (ee_op (pw (n := 8) (by decide) ee_int) (pw (n := a.stop.length) (by omega) (ee_cb (by walk_at "ea") (rc_lenB (by omega)))) (rb_mulNL (by decide))) (ee_op (pw (n := a.again.length) (by omega) (ee_var rfl)) ee_int (rb_subN1 (by omega))) (rb_mulNR (by omega))) (by walk_at "lt") ?_)
  walk_at "fr"
  refine st_seq (st_asg (d := .int (((a.rows.map fun r => 2 ^ (8 - r.1.length)).sum * 2 ^ a.stop.length * (2 ^ a.again.length - 1) : Nat) : Int)) (ee_op (ee_op (ee_cb (ea_cons (ee_lcA (ys := a.rows) (gD := rowD) (js := [8]) (ei_tup (by walk_at "ev")) (fun r => .int ((2 ^ (8 - r.1.length) : Nat) : Int)) (by omega) (by decide) (fun i r hr => ?_)) ea_nil) rc_sumN) (pw (n := a.stop.length) (by omega) (ee_cb (by walk_at "ea") (rc_lenB (by omega)))) (rb_mulNR (by omega))) (ee_op (pw (n := a.again.length) (by omega) (ee_var rfl)) ee_int (rb_subN1 (by omega))) (rb_mulNR (by omega))) (by walk_at "lt") ?_)
  · have hm := (ha.rb r (List.mem_of_getElem? hr)).2.1
    exact ⟨_, eg_name (by walk_at "lt"), pw (n := 8 - r.1.length) (by omega) (ee_op ee_int (ee_cb (ea_cons (ee_op (ee_var rfl) ee_int (rb_ixT rfl)) ea_nil) (rc_lenB (by omega))) (rb_subN8 hm))⟩
  walk_at "fr"
  have hB : 0 < shB a ∧ shB a < 2 ^ 8000 := by
    unfold shB
    refine ⟨Nat.mul_pos (Nat.mul_pos (by decide) (by omega)) (by omega), ?_⟩
    have q1 : 2 ^ 8 * 2 ^ a.stop.length * (2 ^ a.again.length - 1) ≤ 2 ^ 8 * 2 ^ 4 * 2 ^ 4 := Nat.mul_le_mul (Nat.mul_le_mul_left _ p2) (by omega)
    have big : (2 : Nat) ^ 20 < 2 ^ 8000 := Nat.pow_lt_pow_right (by decide) (by decide)
    omega
  exact st_ret (ee_call2 (x := shT a) (y := shB a) (ea_cons (ee_op (ee_var rfl) (ee_op (pw (n := 8) (by decide) ee_int) (pw (n := a.again.length) (by omega) (ee_var rfl)) (rb_mulNL (by decide))) rb_addN) (ea_cons (ee_var rfl) ea_nil)) rfl hB rfl) rfl

--@@part
abbrev sp_order (K : PySem.W.Frag) (B : Adr) : Sp := spA K (fun c : CodeM => [codeD B.Code c]) (fun c => Wf c) (fun c => if freeB c = true then .ok (ordD c c.least) else .err (.ref B.NotFree) none)
theorem ok_order (T : Txt K mg B) : Ok P w K mg base (L2.CX P w) 5 "order" ["code"] (sp_order K B) := by
  refine T.d_order.okX sc_order (spA_len fun _ => rfl) (fun f cdv A outer s H vs Q E hr h => ⟨_, (pss_cons (ps_expr (pe_callH (ok_check_free T) (hr.mono (by first | decide | omega)) rfl (passes_call (takes_of rfl rfl rfl rfl) fun _ _ _ _ h => h) (pa_cons (pv 0) pa_nil)))
    (pss_cons (ps_set (i := 1) sc_order.nd rfl (Or.inl rfl) (pe_callB (k_len K rfl) (by rfl) T.n_len (by decide +kernel) (pa_cons (k_fld K rfl (pv 0) rfl) pa_nil)))
    (pss_cons (ps_for (passes_of rfl) rfl (pi_range1 rfl T.n_range (pa_cons (pe_op (k_add K rfl) (pv 1) pe_int) pa_nil)) (pg_name (i := 2) sc_order.nd rfl (Or.inl rfl)) (pss_one (ps_if (pt_not (pt_cmpR op_ltG (pe_ix (k_ix K rfl) (pe_callH (ok_row_at T) (hr.mono (by first | decide | omega)) rfl pass0 (pa_cons (pv 0) (pa_cons (pv 2) pa_nil))) pe_int (fun _ _ => rfl)) (pe_ix (k_ix K rfl) (pe_callH (ok_row_at T) (hr.mono (by first | decide | omega)) rfl pass0 (pa_cons (pv 0) (pa_cons (pe_op (k_add K rfl) (pv 2) pe_int) pa_nil))) pe_int (fun _ _ => rfl)) (nomark _))) (pss_one (ps_ret (pe_op op_subG (pe_callH (ok_first_number T) (hr.mono (by first | decide | omega)) rfl pass0 (pa_cons (pv 0) (pa_cons (pe_op (k_add K rfl) (pv 2) pe_int) pa_nil))) pe_int))) pss_nil)))
    (pss_one (ps_ret pe_non))))), go_fn h fun a W ha => ?_⟩)
  have hrl := ha.rl
  walk_at "st0"
  refine st_seq (st_call (a := a) (by walk_at "ea") rfl ha (fun d hd => ?_) (fun C o z => by
    show (if freeB a = true then Res.ok (ordD a a.least) else Res.err (Value.ref B.NotFree) none) = Res.err C o
    cases h : freeB a with
    | true => rw [h] at z; cases z
    | false => rw [h] at z; exact z))
  have hf : freeB a = true := by
    cases h : freeB a with
    | true => rfl
    | false => rw [h] at hd; cases hd
  rw [if_pos hf]
  refine st_seq (st_asg (by walk_at "ev") (by walk_at "lt") ?_)
  walk_at "fr"
  refine st_seq (st_for (α := Unit) (ei_rng1 (j := (a.rows.length + 1 : Nat)) (by walk_at "ea") (by omega) (by omega)) (fun _ _ => [.v (codeD B.Code a), .v (.int (a.rows.length : Nat)), .no]) (fun i _ => ∀ r, r < i → a.up r = true) ⟨(), Fle.refl _, fun _ z => by omega⟩ ?_ ?_)
  · rintro i d - hi hI
    obtain ⟨rfl, hlt⟩ := upto_get hi
    refine ⟨_, _, eg_name (by walk_at "lt"), ?_⟩
    walk_at "fr"
    refine st_if (et_not (et_test (ee_op (ee_op (ee_call2 (x := a) (y := i) (by walk_at "ea") rfl ⟨ha, by omega⟩ rfl) ee_int (rb_ixT rfl)) (ee_op (ee_call2 (x := a) (y := i + 1) (by walk_at "ea") rfl ⟨ha, by omega⟩ rfl) ee_int (rb_ixT rfl)) rb_ltB))) (fun hb => ?_) (fun hb => ?_)
    · have hb : a.up i = false := by have q : (!a.up i) = true := hb; simpa using q
      have hl : a.least = some i := CodeM.least_eq ⟨hb, hI⟩
      refine st_ret (ee_op (ee_call2 (x := a) (y := i + 1) (by walk_at "ea") rfl ⟨ha, by omega⟩ rfl) ee_int (rb_subN1 (by have := CodeM.first_lt (c := a) i; omega))) ?_
      rw [hl]; rfl
    · have hb : a.up i = true := by have q : (!a.up i) = false := hb; simpa using q
      refine st_next ⟨(), .keep rfl (.keep rfl (.drop .nil)), fun r hr => ?_⟩
      rcases Nat.lt_or_ge r i with z | z
      · exact hI r z
      · have : r = i := by omega
        subst this; exact hb
  · rintro - hI
    rw [upto_len, Int.toNat_natCast] at hI
    refine st_ret ee_non ?_
    rw [CodeM.least_eq (CodeM.least_none (by omega) hI)]; rfl
abbrev sp_l_told (K : PySem.W.Frag) (B : Adr) : Sp := spA K (fun c : CodeM => [codeD B.Code c]) (fun c => Wf c) (fun c => .ok (if freeB c = true then ordD c c.least else .str "free"))
/-! ### growth -/
abbrev grW (c : CodeM) : Str := if c.d = 0 then "row" else "figure"
abbrev grT (c : CodeM) : Nat := if c.d = 0 then c.again.length else c.again.length + c.d
abbrev grB (c : CodeM) : Nat := if c.d = 0 then 2 ^ c.k else c.d
abbrev sp_growth_of (K : PySem.W.Frag) (B : Adr) : Sp := spA K (fun c : CodeM => [codeD B.Code c]) (fun c => Wf c) (fun c => .ok (.tup [.str (grW c), .int ((grT c / Nat.gcd (grT c) (grB c) : Nat) : Int), .int ((grB c / Nat.gcd (grT c) (grB c) : Nat) : Int)]))
theorem ok_growth_of (T : Txt K mg B) : Ok P w K mg base CX0 2 "growth_of" ["code"] (sp_growth_of K B) := by
  refine T.d_growth_of.ok sc_growth_of (spA_len fun _ => rfl) (fun f cdv A outer s H vs Q E hr h => ⟨_, (pss_cons (ps_asg (k_fld K rfl (pv 0) rfl) (k_tup (n := 4) K rfl rfl (pgs_cons (pg_name (i := 1) sc_growth_of.nd rfl (Or.inl rfl)) (pgs_cons (pg_name (i := 2) sc_growth_of.nd rfl (Or.inl rfl)) (pgs_cons (pg_name (i := 3) sc_growth_of.nd rfl (Or.inl rfl)) (pgs_cons (pg_name (i := 4) sc_growth_of.nd rfl (Or.inl rfl)) pgs_nil))))))
    (pss_cons (ps_if (pt_cmpR (k_eq K rfl hr.units) (pv 4) pe_int (nomark _)) (pss_one (ps_ret (pe_op (k_add K rfl) (pe_tup (pa_cons pe_str pa_nil)) (pe_callH (ok_lowest T) (hr.mono (by first | decide | omega)) rfl pass0 (pa_cons (pe_callB (k_len K rfl) (by rfl) T.n_len (by decide +kernel) (pa_cons (pv 1) pa_nil)) (pa_cons (pe_callH (ok_power T) (hr.mono (by first | decide | omega)) rfl pass0 (pa_cons (pv 3) pa_nil)) pa_nil)))))) pss_nil)
    (pss_one (ps_ret (pe_op (k_add K rfl) (pe_tup (pa_cons pe_str pa_nil)) (pe_callH (ok_lowest T) (hr.mono (by first | decide | omega)) rfl pass0 (pa_cons (pe_op (k_add K rfl) (pe_callB (k_len K rfl) (by rfl) T.n_len (by decide +kernel) (pa_cons (pv 1) pa_nil)) (pv 4)) (pa_cons (pv 4) pa_nil)))))))), go_fn h fun a W ha => ?_⟩)
  have h3 := ha.dl
  have h4 := ha.kl
  have h5 := ha.au
  have hk : 2 ^ a.k ≤ 2 ^ 8 := pow_bd h4
  have hk0 := CodeM.pow_ge_one a.k
  have big : (2 : Nat) ^ 8 < 2 ^ 8000 := Nat.pow_lt_pow_right (by decide) (by decide)
  walk_at "st0"
  refine st_seq (st_asgG (by walk_at "ev") (by walk_at "un4") ?_)
  walk_at "fr"
  refine st_seq (st_if (by walk_at "et") (fun hb => ?_) (fun hb => ?_))
  · have hd : a.d = 0 := by simpa using hb
    refine st_ret (ee_op (ee_tup (ea_cons ee_str ea_nil) (by simp)) (ee_call2 (x := a.again.length) (y := 2 ^ a.k) (ea_cons (ee_cb (ea_cons (ee_var rfl) ea_nil) (rc_lenB (by omega))) (ea_cons (ee_call (a := a.k) (by walk_at "ea") rfl (by omega) rfl) ea_nil)) rfl ⟨by omega, by omega⟩ rfl) (rb_addT (by simp))) ?_
    unfold grW grT grB
    rw [if_pos hd, if_pos hd, if_pos hd]; rfl
  · have hd : ¬ a.d = 0 := by simpa using hb
    refine st_next (st_ret (ee_op (ee_tup (ea_cons ee_str ea_nil) (by simp)) (ee_call2 (x := a.again.length + a.d) (y := a.d) (ea_cons (ee_op (ee_cb (ea_cons (ee_var rfl) ea_nil) (rc_lenB (by omega))) (ee_var rfl) rb_addN) (ea_cons (ee_var rfl) ea_nil)) rfl ⟨by omega, by omega⟩ rfl) (rb_addT (by simp))) ?_)
    unfold grW grT grB
    rw [if_neg hd, if_neg hd, if_neg hd]; rfl
abbrev grD (c : CodeM) : D := .tup [.str (grW c), lowD (grT c) (grB c)]
abbrev sp_growth (K : PySem.W.Frag) (B : Adr) : Sp := spA K (fun c : CodeM => [codeD B.Code c]) (fun c => Wf c) (fun c => if freeB c = true then .ok (grD c) else .err (.ref B.NotFree) none)
theorem ok_growth (T : Txt K mg B) : Ok P w K mg base (L2.CX P w) 5 "growth" ["code"] (sp_growth K B) := by
  refine T.d_growth.okX sc_growth (spA_len fun _ => rfl) (fun f cdv A outer s H vs Q E hr h => ⟨_, (pss_cons (ps_expr (pe_callH (ok_check_free T) (hr.mono (by first | decide | omega)) rfl (passes_call (takes_of rfl rfl rfl rfl) fun _ _ _ _ h => h) (pa_cons (pv 0) pa_nil)))
    (pss_cons (ps_asg (pe_callH (ok_growth_of T) (hr.mono (by first | decide | omega)) rfl pass0 (pa_cons (pv 0) pa_nil)) (k_tup (n := 3) K rfl rfl (pgs_cons (pg_name (i := 1) sc_growth.nd rfl (Or.inl rfl)) (pgs_cons (pg_name (i := 2) sc_growth.nd rfl (Or.inl rfl)) (pgs_cons (pg_name (i := 3) sc_growth.nd rfl (Or.inl rfl)) pgs_nil)))))
    (pss_one (ps_ret (pe_tup (pa_cons (pv 1) (pa_cons (pe_tup (pa_cons (pv 2) (pa_cons (pv 3) pa_nil))) pa_nil))))))), go_fn h fun a W ha => ?_⟩)
  walk_at "st0"
  refine st_seq (st_call (a := a) (by walk_at "ea") rfl ha (fun d hd => ?_) (fun C o z => by
    show (if freeB a = true then Res.ok (grD a) else Res.err (Value.ref B.NotFree) none) = Res.err C o
    cases h : freeB a with
    | true => rw [h] at z; cases z
    | false => rw [h] at z; exact z))
  have hf : freeB a = true := by
    cases h : freeB a with
    | true => rfl
    | false => rw [h] at hd; cases hd
  rw [if_pos hf]
  refine st_seq (st_asgG (ee_call (a := a) (by walk_at "ea") rfl ha rfl) (eg_tup rfl (egs_cons (eg_name (by walk_at "lt")) (egs_cons (eg_name (by walk_at "lt")) (egs_cons (eg_name (by walk_at "lt")) egs_nil)))) ?_)
  walk_at "fr"
  exact st_ret (by walk_at "ev") rfl

--@@part
/-! ### sizes far out: plain mathematics -/
namespace CodeM
variable {c one other : CodeM}
/-- the first number of a row of the tail; the size there -/
def tf (c : CodeM) (i : Nat) : Nat := c.beg + c.before i
def ts (c : CodeM) (i : Nat) : Nat := (c.again.length + c.d) * i + (c.stop.length + c.k)
theorem tf_zero : c.tf 0 = c.beg := by show c.beg + c.before 0 = _; rw [before_zero, Nat.add_zero]
theorem tf_succ (i : Nat) : c.tf (i + 1) = c.tf i + 2 ^ (c.k + c.d * i) := by
  show c.beg + c.before (i + 1) = c.beg + c.before i + _; rw [before_succ, Nat.add_assoc]
theorem tf_mono {i j : Nat} (h : i ≤ j) : c.tf i ≤ c.tf j := Nat.add_le_add_left (before_mono h) _
theorem tf_lt (i : Nat) : c.tf i < c.tf (i + 1) := Nat.add_lt_add_left (before_lt i) _
theorem tf_le {i : Nat} : c.beg ≤ c.tf i := Nat.le_add_right _ _
theorem tf_row (i : Nat) : c.first (c.rows.length + i) = c.tf i := first_tail i
theorem row_ge_beg {n : Nat} (h : c.beg ≤ n) : c.rows.length ≤ c.rowOf n := by
  have h1 := rowOf_mono (c := c) h
  rw [← first_beg, rowOf_first] at h1
  exact h1
theorem tail_ex {n : Nat} (h : c.beg ≤ n) : ∃ i, c.rowOf n = c.rows.length + i ∧ c.tf i ≤ n ∧ n < c.tf (i + 1) := by
  have h1 := row_ge_beg h
  refine ⟨c.rowOf n - c.rows.length, by omega, ?_, ?_⟩
  · rw [← tf_row, Nat.add_sub_cancel' h1]; exact (rowOf_ok n).1
  · rw [← tf_row, ← Nat.add_assoc, Nat.add_sub_cancel' h1]; exact (rowOf_ok n).2
theorem tail_uniq {n i j : Nat} (h1 : c.tf i ≤ n) (h2 : n < c.tf (i + 1)) (h3 : c.tf j ≤ n) (h4 : n < c.tf (j + 1)) : i = j := by
  have := row_uniq (c := c) (n := n) (r := c.rows.length + i) (s := c.rows.length + j) (by rw [tf_row]; exact h1) (by rw [Nat.add_assoc, tf_row]; exact h2) (by rw [tf_row]; exact h3) (by rw [Nat.add_assoc, tf_row]; exact h4)
  omega
theorem size_row {n i : Nat} (h : c.rowOf n = c.rows.length + i) : c.size n = c.ts i := by
  show (c.row (c.rowOf n)).1.length + (c.row (c.rowOf n)).2 = _
  rw [h, row_tail]
  show (rep c.again i ++ c.stop).length + (c.k + c.d * i) = (c.again.length + c.d) * i + (c.stop.length + c.k)
  rw [List.length_append, rep_len, Nat.add_mul, Nat.mul_comm i]; omega
theorem size_in {n i : Nat} (h1 : c.tf i ≤ n) (h2 : n < c.tf (i + 1)) : c.size n = c.ts i := by
  obtain ⟨j, e, h3, h4⟩ := tail_ex (c := c) (Nat.le_trans tf_le h1)
  rw [tail_uniq h1 h2 h3 h4]; exact size_row e
theorem ts_mono {i j : Nat} (h : i ≤ j) : c.ts i ≤ c.ts j := Nat.add_le_add_right (Nat.mul_le_mul_left _ h) _
theorem ts_add (i j : Nat) : c.ts (i + j) = c.ts i + (c.again.length + c.d) * j := by
  show _ * (i + j) + _ = _ * i + _ + _ * j; rw [Nat.mul_add]; omega
theorem size_mono {n m : Nat} (h : c.beg ≤ n) (hm : n ≤ m) : c.size n ≤ c.size m := by
  obtain ⟨i, e, h1, h2⟩ := tail_ex h
  obtain ⟨j, e', h3, h4⟩ := tail_ex (Nat.le_trans h hm)
  rw [size_row e, size_row e']
  have := rowOf_mono (c := c) hm
  exact ts_mono (by omega)
/-- rows of one width -/
theorem tf_flat (hd : c.d = 0) (i : Nat) : c.tf i = c.beg + i * 2 ^ c.k := by show c.beg + c.before i = _; unfold before; rw [if_pos hd]
theorem size_flat (hd : c.d = 0) {n : Nat} (h : c.beg ≤ n) : c.size n = c.ts ((n - c.beg) / 2 ^ c.k) := by
  have hp : 0 < 2 ^ c.k := Nat.pow_pos (by decide)
  have h1 := Nat.div_mul_le_self (n - c.beg) (2 ^ c.k)
  have h2 := Nat.lt_div_mul_add hp (a := n - c.beg)
  refine size_in ?_ ?_
  · rw [tf_flat hd]; omega
  · rw [tf_flat hd, Nat.succ_mul]; omega
/-- rows that grow -/
theorem tf_grow (hd : c.d ≠ 0) (i : Nat) : (2 ^ c.d - 1) * (c.tf i - c.beg) + 2 ^ c.k = 2 ^ (c.k + c.d * i) := by
  have q0 : c.tf i - c.beg = c.before i := Nat.add_sub_cancel_left _ _
  rw [q0]
  clear q0
  induction i with
  | zero => rw [before_zero]; simp
  | succ i ih =>
    rw [before_succ, Nat.mul_add, Nat.add_right_comm, ih]
    have e : 2 ^ (c.k + c.d * (i + 1)) = 2 ^ c.d * 2 ^ (c.k + c.d * i) := by rw [← Nat.pow_add]; congr 1; rw [Nat.mul_succ]; omega
    have p : 1 ≤ 2 ^ c.d := pow_ge_one _
    have q : 2 ^ (c.k + c.d * i) + (2 ^ c.d - 1) * 2 ^ (c.k + c.d * i) = 2 ^ c.d * 2 ^ (c.k + c.d * i) := by
      conv => lhs; lhs; rw [← Nat.one_mul (2 ^ (c.k + c.d * i))]
      rw [← Nat.add_mul, Nat.add_sub_cancel' p]
    rw [q, e]
theorem m_bd (hd : c.d ≠ 0) (h3 : c.d ≤ 3) : 1 ≤ 2 ^ c.d - 1 ∧ 2 ^ c.d - 1 ≤ 7 := by
  have h1 : 2 ^ 1 ≤ 2 ^ c.d := pow_bd (by omega)
  have h2 : 2 ^ c.d ≤ 2 ^ 3 := pow_bd h3
  omega
theorem tf_up (hd : c.d ≠ 0) (i : Nat) : c.tf i < c.beg + 2 ^ (c.k + c.d * i) := by
  have e := tf_grow hd i
  have h1 : 1 ≤ 2 ^ c.d - 1 := by have : 1 < 2 ^ c.d := Nat.one_lt_two_pow hd; omega
  have h2 := Nat.le_mul_of_pos_left (c.tf i - c.beg) h1
  have h3 := pow_ge_one c.k
  have h4 : c.beg ≤ c.tf i := tf_le
  omega
theorem tf_down (hd : c.d ≠ 0) (h3 : c.d ≤ 3) (i : Nat) : 2 ^ (c.k + c.d * i) ≤ 7 * (c.tf i - c.beg) + 2 ^ c.k := by
  have e := tf_grow hd i
  have := Nat.mul_le_mul_right (c.tf i - c.beg) (m_bd hd h3).2
  omega

/-! how one grows against another -/
def moreB (one other : CodeM) : Bool := if one.d = 0 then (if other.d = 0 then decide (other.again.length * 2 ^ one.k < one.again.length * 2 ^ other.k) else true) else (if other.d = 0 then false else decide (other.again.length * one.d < one.again.length * other.d))
def figs (n : Nat) : Nat := if n = 0 then 0 else figs (n / 2) + 1
decreasing_by omega
theorem figs_lt (n : Nat) : n < 2 ^ figs n := by
  induction n using Nat.strongRecOn with
  | _ n ih =>
    unfold figs
    split
    · rename_i h; subst h; decide
    · have := ih (n / 2) (by omega)
      rw [Nat.pow_succ]; omega
theorem figs_le {n k : Nat} (h : n < 2 ^ k) : figs n ≤ k := by
  induction k generalizing n with
  | zero => have : n = 0 := by simpa using h
            subst this; unfold figs; exact Nat.le_refl _
  | succ k ih =>
    unfold figs
    split
    · exact Nat.zero_le _
    · rw [Nat.pow_succ] at h
      exact Nat.succ_le_succ (ih (by omega))
abbrev nearM (one other : CodeM) : Nat := max one.beg other.beg
def farM (one other : CodeM) : Nat :=
  if one.d = 0 then (if other.d = 0 then nearM one other + 2 * 2 ^ max one.k other.k else nearM one other + 16)
  else if other.d = 0 then nearM one other + 2 ^ (max one.k (other.k + 3 + one.d) + 2) else 2 ^ (figs (nearM one other) + 6 * (one.d + 1) * (other.d + 1) + 40)
/-- by how much the first is longer -/
abbrev df (one other : CodeM) (n : Nat) : Int := (one.size n : Int) - (other.size n : Int)
theorem down_ind {f : Nat → Int} {far : Nat} (h : ∀ n, far < n → ∃ m, m < n ∧ f n ≤ f m) (n : Nat) : ∃ m, m ≤ far ∧ m ≤ n ∧ f n ≤ f m := by
  induction n using Nat.strongRecOn with
  | _ n ih =>
    rcases Nat.lt_or_ge far n with z | z
    · obtain ⟨m, h1, h2⟩ := h n z
      obtain ⟨p, p1, p2, p3⟩ := ih m h1
      exact ⟨p, p1, by omega, Int.le_trans h2 p3⟩
    · exact ⟨n, z, Nat.le_refl _, Int.le_refl _⟩
theorem near_one : one.beg ≤ nearM one other := Nat.le_max_left _ _
theorem near_other : other.beg ≤ nearM one other := Nat.le_max_right _ _
/-- not at the start of the first's row: a number before -/
theorem down_in {n i : Nat} (hn : nearM one other < n) (h1 : one.tf i < n) (h2 : n < one.tf (i + 1)) : ∃ m, m < n ∧ df one other n ≤ df one other m := by
  have b1 := near_one (one := one) (other := other)
  have b2 := near_other (one := one) (other := other)
  refine ⟨max (one.tf i) (nearM one other), by omega, ?_⟩
  have e1 := size_in (c := one) (Nat.le_of_lt h1) h2
  have e2 := size_in (c := one) (n := max (one.tf i) (nearM one other)) (Nat.le_max_left _ _) (by omega)
  have := size_mono (c := other) (n := max (one.tf i) (nearM one other)) (m := n) (Nat.le_trans b2 (Nat.le_max_right _ _)) (by omega)
  unfold df
  omega
theorem far_flat (hd : one.d = 0) (hd' : other.d = 0) (hm : moreB one other = false) (n : Nat) (hn : nearM one other + 2 * 2 ^ max one.k other.k < n) : ∃ m, m < n ∧ df one other n ≤ df one other m := by
  unfold moreB at hm
  rw [if_pos hd, if_pos hd'] at hm
  have hm := of_decide_eq_false hm
  have b1 := near_one (one := one) (other := other)
  have b2 := near_other (one := one) (other := other)
  obtain ⟨x, hx⟩ : ∃ x, max one.k other.k = one.k + x := ⟨max one.k other.k - one.k, by omega⟩
  obtain ⟨y, hy⟩ : ∃ y, max one.k other.k = other.k + y := ⟨max one.k other.k - other.k, by omega⟩
  generalize hM : max one.k other.k = M at hn hx hy
  have p1 : 2 ^ M = 2 ^ one.k * 2 ^ x := by rw [hx, Nat.pow_add]
  have p2 : 2 ^ M = 2 ^ other.k * 2 ^ y := by rw [hy, Nat.pow_add]
  have q1 : 0 < 2 ^ one.k := Nat.pow_pos (by decide)
  have q2 : 0 < 2 ^ other.k := Nat.pow_pos (by decide)
  have qM : 0 < 2 ^ M := Nat.pow_pos (by decide)
  refine ⟨n - 2 ^ M, by omega, ?_⟩
  have s1 := size_flat hd (n := n) (by omega)
  have s2 := size_flat hd (n := n - 2 ^ M) (by omega)
  have s3 := size_flat hd' (n := n) (by omega)
  have s4 := size_flat hd' (n := n - 2 ^ M) (by omega)
  have d1 : (n - one.beg) / 2 ^ one.k = (n - 2 ^ M - one.beg) / 2 ^ one.k + 2 ^ x := by
    rw [show n - one.beg = n - 2 ^ M - one.beg + 2 ^ one.k * 2 ^ x by omega, Nat.add_mul_div_left _ _ q1]
  have d2 : (n - other.beg) / 2 ^ other.k = (n - 2 ^ M - other.beg) / 2 ^ other.k + 2 ^ y := by
    rw [show n - other.beg = n - 2 ^ M - other.beg + 2 ^ other.k * 2 ^ y by omega, Nat.add_mul_div_left _ _ q2]
  rw [d1, ts_add] at s1
  rw [d2, ts_add] at s3
  -- a1 * x ≤ a2 * y
  have key : (one.again.length + one.d) * 2 ^ x ≤ (other.again.length + other.d) * 2 ^ y := by
    rw [hd, hd', Nat.add_zero, Nat.add_zero]
    have h1 : one.again.length * 2 ^ x * (2 ^ one.k * 2 ^ other.k) ≤ other.again.length * 2 ^ y * (2 ^ one.k * 2 ^ other.k) := by
      have e1 : one.again.length * 2 ^ x * (2 ^ one.k * 2 ^ other.k) = one.again.length * 2 ^ other.k * 2 ^ M := by rw [p1]; ac_rfl
      have e2 : other.again.length * 2 ^ y * (2 ^ one.k * 2 ^ other.k) = other.again.length * 2 ^ one.k * 2 ^ M := by rw [p2]; ac_rfl
      rw [e1, e2]
      exact Nat.mul_le_mul_right _ (Nat.not_lt.mp hm)
    exact Nat.le_of_mul_le_mul_right h1 (Nat.mul_pos q1 q2)
  unfold df
  omega
theorem pw_inv {a b : Nat} (h : 2 ^ a < 2 ^ b) : a < b := (Nat.pow_lt_pow_iff_right (by decide)).mp h
theorem scale {e u v T A R : Nat} (hT : 1 ≤ T) (hA : A < e) (h : e * u + A ≤ e * v + R) (hR : R < e) : e * T * u + A ≤ e * T * v + R := by
  have huv : u ≤ v := by
    rcases Nat.lt_or_ge v u with z | z
    · exfalso
      have := Nat.mul_le_mul_left e (Nat.succ_le_of_lt z)
      rw [Nat.mul_succ] at this
      omega
    · exact z
  rcases Nat.lt_or_ge u v with z | z
  · have h1 := Nat.mul_le_mul_left (e * T) (Nat.succ_le_of_lt z)
    rw [Nat.mul_succ] at h1
    have h2 : e ≤ e * T := Nat.le_mul_of_pos_right _ hT
    omega
  · have : u = v := by omega
    subst this
    omega
theorem far_half (w1 : Wf one) (w2 : Wf other) (hd : one.d ≠ 0) (hd' : other.d = 0) (n : Nat) (hn : nearM one other + 2 ^ (max one.k (other.k + 3 + one.d) + 2) < n) : ∃ m, m < n ∧ df one other n ≤ df one other m := by
  have b1 := near_one (one := one) (other := other)
  have b2 := near_other (one := one) (other := other)
  have pp := pow_ge_one (max one.k (other.k + 3 + one.d) + 2)
  obtain ⟨i, ei, h1, h2⟩ := tail_ex (c := one) (n := n) (by omega)
  rcases Nat.lt_or_ge (one.tf i) n with z | z
  · exact down_in (by omega) z h2
  have en : n = one.tf i := by omega
  cases i with
  | zero => exfalso; rw [tf_zero] at en; omega
  | succ i =>
    have ha := w1.au
    have hdl := w1.dl
    have hal := w2.al
    generalize hM : max one.k (other.k + 3 + one.d) = M at hn
    have hM' : other.k + 3 + one.d ≤ M := by omega
    have up := tf_up hd (i + 1)
    have k1 : M + 2 < one.k + one.d * (i + 1) := pw_inv (by omega)
    rw [Nat.mul_succ] at k1
    have k2 : other.k + 3 ≤ one.k + one.d * i := by omega
    have p8 : 2 ^ (other.k + 3) = 2 ^ other.k * 8 := by rw [Nat.pow_add]
    have g1 : 2 ^ (other.k + 3) ≤ 2 ^ (one.k + one.d * i) := pow_bd k2
    have g2 : 2 ^ (other.k + 3) ≤ 2 ^ (M + 2) := pow_bd (by omega)
    have st := tf_succ (c := one) i
    refine ⟨max (one.tf i) (nearM one other), by have := tf_lt (c := one) i; omega, ?_⟩
    generalize hp : max (one.tf i) (nearM one other) = p
    have e1 := size_in (c := one) h1 h2
    have e2 := size_in (c := one) (n := p) (i := i) (by omega) (by have := tf_lt (c := one) i; omega)
    have far : p + 2 ^ other.k * 8 ≤ n := by omega
    have s3 := size_flat hd' (n := n) (by omega)
    have s4 := size_flat hd' (n := p) (by omega)
    have q2 : 0 < 2 ^ other.k := Nat.pow_pos (by decide)
    have d2 : (p - other.beg) / 2 ^ other.k + 8 ≤ (n - other.beg) / 2 ^ other.k := by
      rw [← Nat.add_mul_div_left _ _ q2]
      exact Nat.div_le_div_right (by omega)
    have t1 := ts_mono (c := other) d2
    rw [ts_add] at t1
    have t2 := ts_add (c := one) i 1
    have : 8 ≤ (other.again.length + other.d) * 8 := by omega
    unfold df
    omega
theorem far_both (w1 : Wf one) (w2 : Wf other) (hd : one.d ≠ 0) (hd' : other.d ≠ 0) (hm : moreB one other = false) (n : Nat) (hn : 2 ^ (figs (nearM one other) + 6 * (one.d + 1) * (other.d + 1) + 40) < n) : ∃ m, m < n ∧ df one other n ≤ df one other m := by
  unfold moreB at hm
  rw [if_neg hd, if_neg hd'] at hm
  have hm := Nat.not_lt.mp (of_decide_eq_false hm)
  have b1 := near_one (one := one) (other := other)
  have b2 := near_other (one := one) (other := other)
  have fl := figs_lt (nearM one other)
  have d1 := w1.dl
  have d2 := w2.dl
  have k1 := w1.kl
  have k2 := w2.kl
  have hL : one.d * other.d ≤ 6 * (one.d + 1) * (other.d + 1) := by
    rw [Nat.mul_assoc]
    exact Nat.le_trans (Nat.mul_le_mul (Nat.le_succ _) (Nat.le_succ _)) (Nat.le_mul_of_pos_left _ (by decide))
  have hL9 : one.d * other.d ≤ 9 := Nat.mul_le_mul d1 d2
  generalize hg : figs (nearM one other) = g at hn fl
  generalize hS : 6 * (one.d + 1) * (other.d + 1) = S at hn hL
  generalize hN : nearM one other = N at b1 b2 fl
  have hN2 : 2 ^ (g + S + 39) + 2 ^ (g + S + 39) = 2 ^ (g + S + 40) := by rw [Nat.pow_succ 2 (g + S + 39)]; omega
  have hgS : 2 ^ g ≤ 2 ^ (g + S + 39) := pow_bd (by omega)
  obtain ⟨i, ei, h1, h2⟩ := tail_ex (c := one) (n := n) (by omega)
  rcases Nat.lt_or_ge (one.tf i) n with z | z
  · exact down_in (by rw [hN]; omega) z h2
  have en : n = one.tf i := by omega
  have up := tf_up hd i
  have x1 : g + S + 39 < one.k + one.d * i := pw_inv (by omega)
  obtain ⟨j, ej, h3, h4⟩ := tail_ex (c := other) (n := n) (by omega)
  have up2 := tf_up hd' (j + 1)
  have x2 : g + S + 39 < other.k + other.d * (j + 1) := pw_inv (by omega)
  -- rows before, by as many places
  have i0 : other.d ≤ i := by
    rcases Nat.lt_or_ge i other.d with q | q
    · exfalso
      have : one.d * i ≤ 3 * 3 := Nat.mul_le_mul d1 (by omega)
      omega
    · exact q
  have j0 : one.d ≤ j := by
    rcases Nat.lt_or_ge j one.d with q | q
    · exfalso
      have : other.d * (j + 1) ≤ 3 * 3 := Nat.mul_le_mul d2 (by omega)
      omega
    · exact q
  obtain ⟨i', rfl⟩ : ∃ i', i = i' + other.d := ⟨i - other.d, by omega⟩
  obtain ⟨J, hJ⟩ : ∃ J, j + 1 = J + one.d := ⟨j + 1 - one.d, by omega⟩
  have eX : one.k + one.d * (i' + other.d) = one.k + one.d * i' + one.d * other.d := by rw [Nat.mul_add, Nat.add_assoc]
  have eY : other.k + other.d * (j + 1) = other.k + other.d * J + one.d * other.d := by rw [hJ, Nat.mul_add, Nat.add_assoc, Nat.mul_comm other.d one.d]
  have g1 := tf_grow hd i'
  have g2 := tf_grow hd (i' + other.d)
  have g3 := tf_grow hd' J
  have g4 := tf_grow hd' (j + 1)
  have dn := tf_down hd d1 i'
  rw [eX] at g2 x1
  rw [eY] at g4 x2
  have m1 := m_bd hd d1
  have m2 := m_bd hd' d2
  have c1 : 2 ^ one.k ≤ 2 ^ 8 := pow_bd k1
  have c2 : 2 ^ other.k ≤ 2 ^ 8 := pow_bd k2
  generalize one.k + one.d * i' = E1 at *
  generalize other.k + other.d * J = E2 at *
  obtain ⟨e, he1, he2, he⟩ : ∃ e, e ≤ E1 ∧ e ≤ E2 ∧ g + 39 ≤ e := ⟨min E1 E2, Nat.min_le_left _ _, Nat.min_le_right _ _, by omega⟩
  have pe : 2 ^ (g + 39) ≤ 2 ^ e := pow_bd he
  have pe' : 2 ^ (g + 39) = 2 ^ g * 2 ^ 39 := Nat.pow_add _ _ _
  have pX : 2 ^ E1 = 2 ^ e * 2 ^ (E1 - e) := by rw [← Nat.pow_add, Nat.add_sub_cancel' he1]
  have pY : 2 ^ E2 = 2 ^ e * 2 ^ (E2 - e) := by rw [← Nat.pow_add, Nat.add_sub_cancel' he2]
  have pg := pow_ge_one g
  have f1 : one.beg ≤ one.tf i' := tf_le
  have f2 : one.beg ≤ one.tf (i' + other.d) := tf_le
  have f3 : other.beg ≤ other.tf J := tf_le
  have f4 : other.beg ≤ other.tf (j + 1) := tf_le
  have hA : N < one.tf i' := by
    have : 2 ^ e ≤ 2 ^ E1 := pow_bd he1
    omega
  -- the first number of the row before stands before
  have low : one.tf i' < other.tf J := by
    refine Nat.lt_of_not_le fun hc => ?_
    have hT := pow_ge_one (one.d * other.d)
    rw [Nat.pow_add] at g2 g4
    generalize 2 ^ (one.d * other.d) = T at *
    generalize 2 ^ one.d - 1 = u1 at *
    generalize 2 ^ other.d - 1 = u2 at *
    generalize 2 ^ one.k = a1 at *
    generalize 2 ^ other.k = a2 at *
    have r1 : u1 * one.tf i' + a1 = 2 ^ E1 + u1 * one.beg := by
      have := Nat.mul_sub u1 (one.tf i') one.beg
      have := Nat.mul_le_mul_left u1 f1
      omega
    have r2 : u1 * one.tf (i' + other.d) + a1 = 2 ^ E1 * T + u1 * one.beg := by
      have := Nat.mul_sub u1 (one.tf (i' + other.d)) one.beg
      have := Nat.mul_le_mul_left u1 f2
      omega
    have r3 : u2 * other.tf J + a2 = 2 ^ E2 + u2 * other.beg := by
      have := Nat.mul_sub u2 (other.tf J) other.beg
      have := Nat.mul_le_mul_left u2 f3
      omega
    have r4 : u2 * other.tf (j + 1) + a2 = 2 ^ E2 * T + u2 * other.beg := by
      have := Nat.mul_sub u2 (other.tf (j + 1)) other.beg
      have := Nat.mul_le_mul_left u2 f4
      omega
    have q1 := congrArg (u2 * ·) r1
    have q2 := congrArg (u2 * ·) r2
    have q3 := congrArg (u1 * ·) r3
    have q4 := congrArg (u1 * ·) r4
    simp only [Nat.mul_add] at q1 q2 q3 q4
    have w0 : u2 * (u1 * other.tf J) ≤ u2 * (u1 * one.tf i') := Nat.mul_le_mul_left _ (Nat.mul_le_mul_left _ hc)
    have s3 : u1 * (u2 * other.tf J) = u2 * (u1 * other.tf J) := Nat.mul_left_comm _ _ _
    have s4 : u1 * (u2 * other.tf (j + 1)) = u2 * (u1 * other.tf (j + 1)) := Nat.mul_left_comm _ _ _
    have w1' : u2 * (u1 * one.tf (i' + other.d)) < u2 * (u1 * other.tf (j + 1)) := by
      have : one.tf (i' + other.d) < other.tf (j + 1) := by omega
      exact Nat.mul_lt_mul_of_pos_left (Nat.mul_lt_mul_of_pos_left this (by omega)) (by omega)
    have t1 : u2 * a1 ≤ 7 * 256 := Nat.mul_le_mul m2.2 c1
    have t2 : u1 * a2 ≤ 7 * 256 := Nat.mul_le_mul m1.2 c2
    have t3 : u2 * (u1 * one.beg) ≤ 7 * (7 * N) := Nat.mul_le_mul m2.2 (Nat.mul_le_mul m1.2 b1)
    have t4 : u1 * (u2 * other.beg) ≤ 7 * (7 * N) := Nat.mul_le_mul m1.2 (Nat.mul_le_mul m2.2 b2)
    have v1 : u2 * 2 ^ E1 = 2 ^ e * (u2 * 2 ^ (E1 - e)) := by rw [pX]; exact Nat.mul_left_comm _ _ _
    have v2 : u1 * 2 ^ E2 = 2 ^ e * (u1 * 2 ^ (E2 - e)) := by rw [pY]; exact Nat.mul_left_comm _ _ _
    have v3 : u2 * (2 ^ E1 * T) = 2 ^ e * T * (u2 * 2 ^ (E1 - e)) := by rw [pX]; ac_rfl
    have v4 : u1 * (2 ^ E2 * T) = 2 ^ e * T * (u1 * 2 ^ (E2 - e)) := by rw [pY]; ac_rfl
    have sc := scale (e := 2 ^ e) (u := u1 * 2 ^ (E2 - e)) (v := u2 * 2 ^ (E1 - e)) (T := T) (A := u1 * (u2 * other.beg) + u2 * a1) (R := u2 * (u1 * one.beg) + u1 * a2) hT (by omega) (by omega) (by omega)
    omega
  refine ⟨one.tf i', by rw [en]; have := tf_lt (c := one) i'; have := tf_mono (c := one) (show i' + 1 ≤ i' + other.d by omega); omega, ?_⟩
  obtain ⟨l, el, h5, h6⟩ := tail_ex (c := other) (n := one.tf i') (by omega)
  have hl : l < J := by
    rcases Nat.lt_or_ge l J with q | q
    · exact q
    · have := tf_mono (c := other) q; omega
  have z1 := size_row ei
  have z2 := size_in (c := one) (n := one.tf i') (Nat.le_refl _) (tf_lt i')
  have z3 := size_row ej
  have z4 := size_row el
  rw [ts_add] at z1
  have z5 := ts_mono (c := other) (show l + one.d ≤ j by omega)
  rw [ts_add] at z5
  have z6 : (one.again.length + one.d) * other.d ≤ (other.again.length + other.d) * one.d := by
    rw [Nat.add_mul, Nat.add_mul, Nat.mul_comm other.d one.d]; omega
  unfold df
  omega
theorem far_ok (w1 : Wf one) (w2 : Wf other) (hm : moreB one other = false) (n : Nat) : ∃ m, m ≤ farM one other ∧ m ≤ n ∧ df one other n ≤ df one other m := by
  refine down_ind (fun n hn => ?_) n
  unfold farM at hn
  by_cases hd : one.d = 0
  · by_cases hd' : other.d = 0
    · rw [if_pos hd, if_pos hd'] at hn; exact far_flat hd hd' hm n hn
    · unfold moreB at hm; rw [if_pos hd, if_neg hd'] at hm; cases hm
  · rw [if_neg hd] at hn
    by_cases hd' : other.d = 0
    · rw [if_pos hd'] at hn; exact far_half w1 w2 hd hd' n hn
    · rw [if_neg hd'] at hn; exact far_both w1 w2 hd hd' hm n hn
/-- codes that longer and gap are asked of -/
structure Lg (one other : CodeM) : Prop where
  w1 : Wf one
  w2 : Wf other
  b1 : one.beg ≤ 16
  b2 : other.beg ≤ 16
  k : one.d = 0 → other.d = 0 → one.k ≤ 4 ∧ other.k ≤ 4
/-- a number at which the first is longer, where it grows more -/
def posM (one other : CodeM) : Nat := if one.d = 0 then (if other.d = 0 then 16 + 2 ^ one.k * 2 ^ other.k * 77 else 16 + 2 ^ one.k * 200) else one.tf 130
theorem pos_ok (L : Lg one other) (hm : moreB one other = true) : 0 < df one other (posM one other) := by
  obtain ⟨w1, w2, b1, b2, hk⟩ := L
  unfold moreB at hm
  have ha := w1.al
  have hs := w2.sl
  have hau := w2.au
  have hd3 := w2.dl
  have hk2 := w2.kl
  have hk1 := w1.kl
  unfold posM
  by_cases hd : one.d = 0
  · rw [if_pos hd] at hm ⊢
    by_cases hd' : other.d = 0
    · rw [if_pos hd'] at hm ⊢
      have hm := of_decide_eq_true hm
      have q1 : 0 < 2 ^ one.k := Nat.pow_pos (by decide)
      have q2 : 0 < 2 ^ other.k := Nat.pow_pos (by decide)
      have s1 := size_flat hd (n := 16 + 2 ^ one.k * 2 ^ other.k * 77) (by omega)
      have s2 := size_flat hd' (n := 16 + 2 ^ one.k * 2 ^ other.k * 77) (by omega)
      have d1 : 2 ^ other.k * 77 ≤ (16 + 2 ^ one.k * 2 ^ other.k * 77 - one.beg) / 2 ^ one.k := by
        rw [Nat.le_div_iff_mul_le q1]
        have : 2 ^ other.k * 77 * 2 ^ one.k = 2 ^ one.k * 2 ^ other.k * 77 := by ac_rfl
        omega
      have d2 : (16 + 2 ^ one.k * 2 ^ other.k * 77 - other.beg) / 2 ^ other.k ≤ 2 ^ one.k * 77 + 16 := by
        refine Nat.le_of_lt_succ (Nat.div_lt_of_lt_mul ?_)
        have e1 : 2 ^ other.k * (2 ^ one.k * 77 + 16).succ = 2 ^ one.k * 2 ^ other.k * 77 + 2 ^ other.k * 17 := by rw [Nat.succ_eq_add_one, Nat.add_assoc, Nat.mul_add]; congr 1; ac_rfl
        rw [e1]; omega
      have t1 := ts_mono (c := one) d1
      have t2 := ts_mono (c := other) d2
      have e1 : one.ts (2 ^ other.k * 77) = one.again.length * 2 ^ other.k * 77 + (one.stop.length + one.k) := by show (_ + one.d) * _ + _ = _; rw [hd, Nat.add_zero, Nat.mul_assoc]
      have e2 : other.ts (2 ^ one.k * 77 + 16) = other.again.length * 2 ^ one.k * 77 + other.again.length * 16 + (other.stop.length + other.k) := by show (_ + other.d) * _ + _ = _; rw [hd', Nat.add_zero, Nat.mul_add, Nat.mul_assoc]
      unfold df
      have := (hk hd hd').2
      omega
    · rw [if_neg hd']
      have q1 : 0 < 2 ^ one.k := Nat.pow_pos (by decide)
      have q8 : 2 ^ one.k ≤ 2 ^ 8 := pow_bd hk1
      have s1 := size_flat hd (n := 16 + 2 ^ one.k * 200) (by omega)
      have d1 : 200 ≤ (16 + 2 ^ one.k * 200 - one.beg) / 2 ^ one.k := by
        rw [Nat.le_div_iff_mul_le q1]; omega
      have t1 := ts_mono (c := one) d1
      obtain ⟨i, ei, h1, h2⟩ := tail_ex (c := other) (n := 16 + 2 ^ one.k * 200) (by omega)
      have dn := tf_down hd' hd3 i
      have q2 : 2 ^ other.k ≤ 2 ^ 8 := pow_bd hk2
      have hlt : other.k + other.d * i < 19 := pw_inv (by omega)
      have hi : 1 * i ≤ other.d * i := Nat.mul_le_mul_right _ (by omega)
      have e2 := size_row ei
      have e3 : (other.again.length + other.d) * i ≤ 7 * i := Nat.mul_le_mul_right _ (by omega)
      have e4 : 200 ≤ (one.again.length + one.d) * 200 := by omega
      unfold df
      show 0 < (one.size _ : Int) - _
      have e5 : other.ts i = (other.again.length + other.d) * i + (other.stop.length + other.k) := rfl
      have e6 : one.ts 200 = (one.again.length + one.d) * 200 + (one.stop.length + one.k) := rfl
      omega
  · rw [if_neg hd] at hm ⊢
    by_cases hd' : other.d = 0
    · rw [if_pos hd'] at hm; cases hm
    · rw [if_neg hd'] at hm
      have hm := of_decide_eq_true hm
      have dd := w1.dl
      have s1 := size_in (c := one) (n := one.tf 130) (Nat.le_refl _) (tf_lt 130)
      have up := tf_up hd 130
      have dn1 := tf_down hd dd 130
      have q1 : 2 ^ one.k ≤ 2 ^ 8 := pow_bd hk1
      have q2 : 2 ^ other.k ≤ 2 ^ 8 := pow_bd hk2
      have q3 : 2 ^ 100 ≤ 2 ^ (one.k + one.d * 130) := pow_bd (by omega)
      have n100 : (2 : Nat) ^ 100 = 1267650600228229401496703205376 := by decide
      obtain ⟨j, ej, h1, h2⟩ := tail_ex (c := other) (n := one.tf 130) (by omega)
      have dn := tf_down hd' hd3 j
      have p4 : 2 ^ (one.k + one.d * 130 + 4) = 2 ^ (one.k + one.d * 130) * 16 := Nat.pow_add _ _ _
      have hlt : other.k + other.d * j < one.k + one.d * 130 + 4 := pw_inv (by omega)
      have e2 := size_row ej
      have e5 : other.ts j = (other.again.length + other.d) * j + (other.stop.length + other.k) := rfl
      have e6 : one.ts 130 = (one.again.length + one.d) * 130 + (one.stop.length + one.k) := rfl
      -- times the other's step
      have r1 : other.d * j ≤ one.d * 130 + 11 := by omega
      have r2 : (other.again.length + other.d) * (other.d * j) ≤ (other.again.length + other.d) * (one.d * 130 + 11) := Nat.mul_le_mul_left _ r1
      have r3 : (other.again.length + other.d) * (one.d * 130 + 11) = (other.again.length * one.d + other.d * one.d) * 130 + (other.again.length + other.d) * 11 := by rw [Nat.mul_add, ← Nat.mul_assoc, Nat.add_mul]
      have r4 : (other.again.length * one.d + other.d * one.d + 1) * 130 ≤ (one.again.length * other.d + one.d * other.d) * 130 := Nat.mul_le_mul_right _ (by rw [Nat.mul_comm other.d]; omega)
      have r5 : (other.again.length + other.d) * 11 ≤ 7 * 11 := Nat.mul_le_mul_right _ (by omega)
      have r6 : other.d * (other.stop.length + other.k) ≤ 3 * 12 := Nat.mul_le_mul hd3 (by omega)
      have r7 : other.d * other.ts j = (other.again.length + other.d) * (other.d * j) + other.d * (other.stop.length + other.k) := by rw [e5, Nat.mul_add]; congr 1; ac_rfl
      have r8 : other.d * one.ts 130 = (one.again.length * other.d + one.d * other.d) * 130 + other.d * (one.stop.length + one.k) := by rw [e6, Nat.mul_add, ← Nat.add_mul]; congr 1; ac_rfl
      have r9 : other.ts j < one.ts 130 := by
        refine Nat.lt_of_mul_lt_mul_left (a := other.d) ?_
        rw [Nat.add_mul (other.again.length * one.d + other.d * one.d)] at r4
        omega
      unfold df
      omega
end CodeM

/-! ### sizes: walks -/
theorem rc_max2N {K : PySem.W.Frag} {a b : Nat} : Rc K (fun xs H Q => ∃ i j, xs = [.int i, .int j] ∧ Q (.int (if j > i then j else i)) H) [.int (a : Nat), .int (b : Nat)] (.int ((max a b : Nat) : Int)) := fun G H vs s r Q t => by
  cases r with
  | cons r1 r2 => cases r2 with
    | cons r2 r3 =>
      cases r3; cases r1; cases r2
      refine ⟨_, _, rfl, ?_⟩
      have e : (if ((b : Nat) : Int) > ((a : Nat) : Int) then ((b : Nat) : Int) else ((a : Nat) : Int)) = ((max a b : Nat) : Int) := by split <;> omega
      rw [e]
      exact t.same s (.int _)
namespace CodeM
variable {c one other : CodeM}
/-- the least numbers of the rows, up to a number -/
def tn (c : CodeM) (most : Nat) : List Nat := (List.range (c.rowOf most + 1)).map c.first
theorem tn_mem {most k : Nat} (h : k ≤ most) : c.first (c.rowOf k) ∈ c.tn most :=
  List.mem_map.mpr ⟨_, List.mem_range.mpr (Nat.lt_succ_of_le (rowOf_mono h)), rfl⟩
theorem tn_le {most k : Nat} (h : k ∈ c.tn most) : k ≤ most := by
  obtain ⟨r, h1, rfl⟩ := List.mem_map.mp h
  exact Nat.le_trans (first_mono (Nat.le_of_lt_succ (List.mem_range.mp h1))) (rowOf_ok most).1
theorem tn_len (most : Nat) : (c.tn most).length = c.rowOf most + 1 := by unfold tn; rw [List.length_map, List.length_range]
abbrev tns (one other : CodeM) (most : Nat) : List Nat := srt (one.tn most ++ other.tn most)
theorem tns_le {most k : Nat} (h : k ∈ tns one other most) : k ≤ most := by
  rcases List.mem_append.mp (mem_srt.mp h) with h | h
  · exact tn_le h
  · exact tn_le h
theorem row_same {k p : Nat} (h1 : c.first (c.rowOf k) ≤ p) (h2 : p ≤ k) : c.size p = c.size k := by
  have e : c.rowOf p = c.rowOf k := rowOf_eq h1 (Nat.lt_of_le_of_lt h2 (rowOf_ok k).2)
  unfold size; rw [e]
/-- some turn stands for each number -/
theorem tns_for {most k : Nat} (h : k ≤ most) : ∃ p, p ∈ tns one other most ∧ p ≤ k ∧ df one other p = df one other k := by
  have h1 := (rowOf_ok (c := one) k).1
  have h2 := (rowOf_ok (c := other) k).1
  refine ⟨max (one.first (one.rowOf k)) (other.first (other.rowOf k)), ?_, by omega, ?_⟩
  · rw [mem_srt]
    rcases Nat.le_total (one.first (one.rowOf k)) (other.first (other.rowOf k)) with z | z
    · rw [Nat.max_eq_right z]; exact List.mem_append_right _ (tn_mem h)
    · rw [Nat.max_eq_left z]; exact List.mem_append_left _ (tn_mem h)
  · unfold df
    rw [row_same (c := one) (k := k) (Nat.le_max_left _ _) (by omega), row_same (c := other) (k := k) (Nat.le_max_right _ _) (by omega)]
theorem tns_ne (most : Nat) : tns one other most ≠ [] := fun z => by
  obtain ⟨p, hp, _⟩ := tns_for (one := one) (other := other) (Nat.zero_le most)
  rw [z] at hp; cases hp
/-- the least number at which the first is longer -/
noncomputable def lgM (one other : CodeM) : Option Nat := lst fun n => 0 < df one other n
theorem lg_some {l : List Nat} {top n : Nat} {rest : List Nat} (up : l.Pairwise (· ≤ ·)) (h1 : ∀ k, k < top → ∃ p, p ∈ l ∧ p ≤ k ∧ df one other p = df one other k) (h2 : ∀ k ∈ l, k ≤ top) (e : l.filter (fun n => decide (0 < df one other n)) = n :: rest) : lgM one other = some n := by
  have hn : n ∈ l.filter (fun n => decide (0 < df one other n)) := by rw [e]; exact List.mem_cons_self
  obtain ⟨m1, m2⟩ := List.mem_filter.mp hn
  refine lst_eq ⟨of_decide_eq_true m2, fun k hk hp => ?_⟩
  have := h2 n m1
  obtain ⟨p, p1, p2, p3⟩ := h1 k (by omega)
  have hm : p ∈ l.filter (fun n => decide (0 < df one other n)) := List.mem_filter.mpr ⟨p1, decide_eq_true (by rw [p3]; exact hp)⟩
  rw [e] at hm
  have u2 : (n :: rest).Pairwise (· ≤ ·) := by rw [← e]; exact up.filter _
  rcases List.mem_cons.mp hm with q | q
  · omega
  · have := (List.pairwise_cons.mp u2).1 p q; omega
theorem lg_none {l : List Nat} {top : Nat} (h1 : ∀ k, k < top → ∃ p, p ∈ l ∧ p ≤ k ∧ df one other p = df one other k) (e : l.filter (fun n => decide (0 < df one other n)) = []) : ∀ k, k < top → ¬ 0 < df one other k := fun k hk hp => by
  obtain ⟨p, p1, p2, p3⟩ := h1 k hk
  have : p ∈ l.filter (fun n => decide (0 < df one other n)) := List.mem_filter.mpr ⟨p1, decide_eq_true (by rw [p3]; exact hp)⟩
  rw [e] at this; cases this
theorem lg_far (w1 : Wf one) (w2 : Wf other) (hm : moreB one other = false) (h : ∀ k, k ≤ farM one other → ¬ 0 < df one other k) : lgM one other = none := by
  refine lst_eq fun k hk => ?_
  obtain ⟨m, h1, h2, h3⟩ := far_ok w1 w2 hm k
  exact h m h1 (by omega)
theorem lg_more (L : Lg one other) (hm : moreB one other = true) : lgM one other ≠ none := fun z => lst_none z (posM one other) (pos_ok L hm)
/-- the greatest difference -/
noncomputable def gpM (one other : CodeM) : Int := maxI ((tns one other (farM one other)).map (df one other))
theorem gp_ok (w1 : Wf one) (w2 : Wf other) (hm : moreB one other = false) : (∃ n, n ≤ farM one other ∧ df one other n = gpM one other) ∧ ∀ n, df one other n ≤ gpM one other := by
  obtain ⟨h1, h2⟩ := maxI_ok (l := (tns one other (farM one other)).map (df one other)) (fun z => tns_ne (one := one) (other := other) (farM one other) (List.map_eq_nil_iff.mp z))
  obtain ⟨n, n1, n2⟩ := List.mem_map.mp h1
  refine ⟨⟨n, tns_le n1, n2⟩, fun k => ?_⟩
  obtain ⟨m, m1, m2, m3⟩ := far_ok w1 w2 hm k
  obtain ⟨p, p1, p2, p3⟩ := tns_for (one := one) (other := other) m1
  have := h2 _ (List.mem_map.mpr ⟨p, p1, rfl⟩)
  unfold gpM
  omega
/-! bounds -/
theorem nok_flat (hd : c.d = 0) {n : Nat} (h : n < 16000 * 2 ^ c.k) : NOk c n := by
  show n < c.tf 16000
  rw [tf_flat hd]; omega
theorem nok_grow (hd : c.d ≠ 0) {n : Nat} (h : n < 2 ^ 15000) : NOk c n := by
  show n < c.tf 16000
  have e : c.tf 16000 = c.tf 15999 + 2 ^ (c.k + c.d * 15999) := tf_succ 15999
  have : 2 ^ 15000 ≤ 2 ^ (c.k + c.d * 15999) := pow_bd (by omega)
  omega
/-- numbers to which turns are looked for -/
structure Bd (one other : CodeM) (n : Nat) : Prop where
  n1 : NOk one n
  n2 : NOk other n
  s : n < 2 ^ 9000
theorem Bd.mono {m n : Nat} (h : Bd one other n) (hm : m ≤ n) : Bd one other m := ⟨Nat.lt_of_le_of_lt hm h.n1, Nat.lt_of_le_of_lt hm h.n2, Nat.lt_of_le_of_lt hm h.s⟩
def faM (one other : CodeM) (most : Nat) : Nat := if one.d = 0 ∨ other.d = 0 then 2 * most + 16 else most * most
theorem fa_mono {m n : Nat} (h : m ≤ n) : faM one other m ≤ faM one other n := by
  unfold faM
  split
  · omega
  · exact Nat.mul_le_mul h h
theorem p20 : (2 : Nat) ^ 20 = 1048576 := by decide
theorem far_bd (L : Lg one other) : Bd one other (farM one other) := by
  obtain ⟨w1, w2, b1, b2, hk⟩ := L
  have k1 := w1.kl
  have k2 := w2.kl
  have d1 := w1.dl
  have d2 := w2.dl
  have q1 := pow_ge_one one.k
  have q2 := pow_ge_one other.k
  have s20 : 2 ^ 20 ≤ 2 ^ 9000 := pow_bd (by decide)
  have s20' : 2 ^ 20 ≤ 2 ^ 15000 := pow_bd (by decide)
  have s9 : 2 ^ 9000 ≤ 2 ^ 15000 := pow_bd (by decide)
  have hnear : nearM one other ≤ 16 := by show max _ _ ≤ 16; omega
  rw [p20] at s20 s20'
  unfold farM
  by_cases hd : one.d = 0
  · rw [if_pos hd]
    by_cases hd' : other.d = 0
    · rw [if_pos hd']
      have : 2 ^ max one.k other.k ≤ 2 ^ 8 := pow_bd (by omega)
      exact ⟨nok_flat hd (by omega), nok_flat hd' (by omega), by omega⟩
    · rw [if_neg hd']
      exact ⟨nok_flat hd (by omega), nok_grow hd' (by omega), by omega⟩
  · rw [if_neg hd]
    by_cases hd' : other.d = 0
    · rw [if_pos hd']
      have h1 : 2 ^ (max one.k (other.k + 3 + one.d) + 2) ≤ 2 ^ 16 := pow_bd (by omega)
      have h2 : 2 ^ (max one.k (other.k + 3 + one.d) + 2) ≤ 2 ^ (other.k + 10) := pow_bd (by omega)
      have h3 : 2 ^ (other.k + 10) = 2 ^ other.k * 1024 := Nat.pow_add _ _ _
      exact ⟨nok_grow hd (by omega), nok_flat hd' (by omega), by omega⟩
    · rw [if_neg hd']
      have hf : figs (nearM one other) ≤ 5 := figs_le (by omega)
      have hp : 6 * (one.d + 1) * (other.d + 1) ≤ 6 * 4 * 4 := Nat.mul_le_mul (Nat.mul_le_mul_left _ (by omega)) (by omega)
      have h1 : 2 ^ (figs (nearM one other) + 6 * (one.d + 1) * (other.d + 1) + 40) ≤ 2 ^ 200 := pow_bd (by omega)
      have h2 : 2 ^ 200 < 2 ^ 9000 := Nat.pow_lt_pow_right (by decide) (by decide)
      exact ⟨nok_grow hd (by omega), nok_grow hd' (by omega), by omega⟩
theorem pos_bd (L : Lg one other) (hm : moreB one other = true) : Bd one other (faM one other (posM one other)) := by
  obtain ⟨w1, w2, b1, b2, hk⟩ := L
  have k1 := w1.kl
  have k2 := w2.kl
  have d1 := w1.dl
  have q1 := pow_ge_one one.k
  have q2 := pow_ge_one other.k
  have s20 : 2 ^ 20 ≤ 2 ^ 9000 := pow_bd (by decide)
  have s20' : 2 ^ 20 ≤ 2 ^ 15000 := pow_bd (by decide)
  have s9 : 2 ^ 9000 ≤ 2 ^ 15000 := pow_bd (by decide)
  rw [p20] at s20 s20'
  unfold moreB at hm
  unfold posM faM
  by_cases hd : one.d = 0
  · rw [if_pos hd, if_pos (.inl hd)]
    by_cases hd' : other.d = 0
    · rw [if_pos hd']
      obtain ⟨h4, h4'⟩ := hk hd hd'
      have p1 : 2 ^ one.k ≤ 2 ^ 4 := pow_bd h4
      have p2 : 2 ^ other.k ≤ 2 ^ 4 := pow_bd h4'
      have p3 : 2 ^ one.k * 2 ^ other.k ≤ 2 ^ one.k * 16 := Nat.mul_le_mul_left _ p2
      have p4 : 2 ^ one.k * 2 ^ other.k ≤ 16 * 2 ^ other.k := Nat.mul_le_mul_right _ p1
      exact ⟨nok_flat hd (by omega), nok_flat hd' (by omega), by omega⟩
    · rw [if_neg hd']
      have p1 : 2 ^ one.k ≤ 2 ^ 8 := pow_bd k1
      exact ⟨nok_flat hd (by omega), nok_grow hd' (by omega), by omega⟩
  · rw [if_neg hd] at hm ⊢
    by_cases hd' : other.d = 0
    · rw [if_pos hd'] at hm; cases hm
    · rw [if_neg (by rintro (z | z); exact hd z; exact hd' z)]
      have up := tf_up hd 130
      have h1 : 2 ^ (one.k + one.d * 130) ≤ 2 ^ 400 := pow_bd (by omega)
      have h2 : 2 ^ 400 + 2 ^ 400 = 2 ^ 401 := by rw [Nat.pow_succ 2 400, Nat.mul_two]
      have h3 : 2 ^ 5 ≤ 2 ^ 400 := pow_bd (by decide)
      have h4 : one.tf 130 ≤ 2 ^ 401 := by omega
      have h5 : one.tf 130 * one.tf 130 ≤ 2 ^ 401 * 2 ^ 401 := Nat.mul_le_mul h4 h4
      rw [← Nat.pow_add] at h5
      have h6 : 2 ^ (401 + 401) < 2 ^ 9000 := Nat.pow_lt_pow_right (by decide) (by decide)
      exact ⟨nok_grow hd (by omega), nok_grow hd' (by omega), by omega⟩
theorem far_2 : 2 ≤ farM one other := by
  unfold farM
  split
  · split
    · have := pow_ge_one (max one.k other.k); omega
    · omega
  · split
    · have h1 : 2 ^ 2 ≤ 2 ^ (max one.k (other.k + 3 + one.d) + 2) := pow_bd (by omega)
      omega
    · have h1 : 2 ^ 2 ≤ 2 ^ (figs (nearM one other) + 6 * (one.d + 1) * (other.d + 1) + 40) := pow_bd (by omega)
      omega
theorem fa_lt {m : Nat} (h : 2 ≤ m) : m < faM one other m := by
  unfold faM
  split
  · omega
  · have := Nat.mul_le_mul_right m h; omega
end CodeM
open CodeM in
abbrev sp_grows_more (K : PySem.W.Frag) (B : Adr) : Sp := spA2 K (fun (one other : CodeM) => [codeD B.Code one, codeD B.Code other]) (fun one other => Wf one ∧ Wf other) (fun one other => .ok (.bl (moreB one other)))
theorem low_cmp {t1 b1 t2 b2 : Nat} (h1 : 0 < b1) (h2 : 0 < b2) : decide (t2 / Nat.gcd t2 b2 * (b1 / Nat.gcd t1 b1) < t1 / Nat.gcd t1 b1 * (b2 / Nat.gcd t2 b2)) = decide (t2 * b1 < t1 * b2) := by
  have g1 := Nat.gcd_pos_of_pos_right t1 h1
  have g2 := Nat.gcd_pos_of_pos_right t2 h2
  have e1 := Nat.div_mul_cancel (Nat.gcd_dvd_left t1 b1)
  have e2 := Nat.div_mul_cancel (Nat.gcd_dvd_right t1 b1)
  have e3 := Nat.div_mul_cancel (Nat.gcd_dvd_left t2 b2)
  have e4 := Nat.div_mul_cancel (Nat.gcd_dvd_right t2 b2)
  generalize t1 / Nat.gcd t1 b1 = x1 at *
  generalize b1 / Nat.gcd t1 b1 = y1 at *
  generalize t2 / Nat.gcd t2 b2 = x2 at *
  generalize b2 / Nat.gcd t2 b2 = y2 at *
  generalize Nat.gcd t1 b1 = u at *
  generalize Nat.gcd t2 b2 = v at *
  subst e1 e2 e3 e4
  have a1 : x2 * v * (y1 * u) = u * v * (x2 * y1) := by ac_rfl
  have a2 : x1 * u * (y2 * v) = u * v * (x1 * y2) := by ac_rfl
  rw [a1, a2, decide_eq_decide]
  exact (Nat.mul_lt_mul_left (Nat.mul_pos g1 g2)).symm
theorem gr_small {c : CodeM} (w : Wf c) : grT c / Nat.gcd (grT c) (grB c) < 2 ^ 64 := by
  have := Nat.div_le_self (grT c) (Nat.gcd (grT c) (grB c))
  have h1 := w.au
  have h2 := w.dl
  have h3 : grT c ≤ 7 := by unfold grT; split <;> omega
  omega
theorem gr_pos (c : CodeM) : 0 < grB c := by
  unfold grB
  split
  · exact Nat.pow_pos (by decide)
  · omega
theorem more_ne {one other : CodeM} (hb : (!decide (grW one = grW other)) = true) : decide (grW one = "row") = CodeM.moreB one other := by
  unfold CodeM.moreB
  unfold grW at hb ⊢
  by_cases h1 : one.d = 0
  · rw [if_pos h1] at hb ⊢
    rw [if_pos h1]
    by_cases h2 : other.d = 0
    · rw [if_pos h2] at hb; simp at hb
    · rw [if_neg h2]; rfl
  · rw [if_neg h1] at hb ⊢
    rw [if_neg h1]
    by_cases h2 : other.d = 0
    · rw [if_pos h2]; decide
    · rw [if_neg h2] at hb; simp at hb
theorem more_eq {one other : CodeM} (hb : (!decide (grW one = grW other)) = false) : decide (grT other / Nat.gcd (grT other) (grB other) * (grB one / Nat.gcd (grT one) (grB one)) < grT one / Nat.gcd (grT one) (grB one) * (grB other / Nat.gcd (grT other) (grB other))) = CodeM.moreB one other := by
  rw [low_cmp (gr_pos one) (gr_pos other)]
  unfold CodeM.moreB
  unfold grW at hb
  unfold grT grB
  by_cases h1 : one.d = 0
  · rw [if_pos h1] at hb
    rw [if_pos h1, if_pos h1, if_pos h1]
    by_cases h2 : other.d = 0
    · rw [if_pos h2, if_pos h2, if_pos h2]
    · rw [if_neg h2] at hb; exact absurd hb (by decide)
  · rw [if_neg h1] at hb
    rw [if_neg h1, if_neg h1, if_neg h1]
    by_cases h2 : other.d = 0
    · rw [if_pos h2] at hb; exact absurd hb (by decide)
    · rw [if_neg h2, if_neg h2, if_neg h2, decide_eq_decide, Nat.add_mul, Nat.add_mul, Nat.mul_comm other.d one.d]
      omega
theorem ok_grows_more (T : Txt K mg B) : Ok P w K mg base CX0 3 "grows_more" ["one", "other"] (sp_grows_more K B) := by
  refine T.d_grows_more.ok sc_grows_more (spA_len fun _ => rfl) (fun f cdv A outer s H vs Q E hr h => ⟨_, (pss_cons (ps_par (i := 2) (j := 3) (by rfl) sc_grows_more.nd rfl rfl (by decide) rfl rfl (pa_cons (pe_callH (ok_growth_of T) (hr.mono (by first | decide | omega)) rfl pass0 (pa_cons (pv 0) pa_nil)) (pa_cons (pe_callH (ok_growth_of T) (hr.mono (by first | decide | omega)) rfl pass0 (pa_cons (pv 1) pa_nil)) pa_nil)) (by rfl))
    (pss_cons (ps_if (pt_cmpR (k_ne K rfl hr.units) (pe_ix (k_ix K rfl) (pv 2) pe_int (fun _ _ => rfl)) (pe_ix (k_ix K rfl) (pv 3) pe_int (fun _ _ => rfl)) (nomark _)) (pss_one (ps_ret (pe_cmpR (k_eq K rfl hr.units) (pe_ix (k_ix K rfl) (pv 2) pe_int (fun _ _ => rfl)) pe_str (nomark _)))) pss_nil)
    (pss_one (ps_ret (pe_cmpR op_gtG (pe_op (k_mul K rfl) (pe_ix (k_ix K rfl) (pv 2) pe_int (fun _ _ => rfl)) (pe_ix (k_ix K rfl) (pv 3) pe_int (fun _ _ => rfl))) (pe_op (k_mul K rfl) (pe_ix (k_ix K rfl) (pv 3) pe_int (fun _ _ => rfl)) (pe_ix (k_ix K rfl) (pv 2) pe_int (fun _ _ => rfl))) (nomark _)))))), go_fn h fun a W ha => ?_⟩)
  obtain ⟨one, other⟩ := a
  dsimp only at ha
  obtain ⟨w1, w2⟩ := ha
  have l1 := gr_small w1
  have l2 := gr_small w2
  walk_at "st0"
  refine st_seq (st_par (ea_cons (ee_call (a := one) (by walk_at "ea") rfl w1 rfl) (ea_cons (ee_call (a := other) (by walk_at "ea") rfl w2 rfl) ea_nil)) (by walk_at "lt") (by walk_at "lt") ?_)
  walk_at "fr"
  refine st_seq (st_if (et_test (ee_op (ee_op (ee_var rfl) ee_int (rb_ixT rfl)) (ee_op (ee_var rfl) ee_int (rb_ixT rfl)) rb_neS)) (fun hb => ?_) (fun hb => ?_))
  · exact st_ret (ee_is (ee_op (ee_op (ee_var rfl) ee_int (rb_ixT rfl)) ee_str rb_eqS) (congrArg D.bl (more_ne hb))) rfl
  · exact st_next (st_ret (ee_is (ee_op (ee_op (ee_op (ee_var rfl) ee_int (rb_ixT rfl)) (ee_op (ee_var rfl) ee_int (rb_ixT rfl)) (rb_mulNL l1)) (ee_op (ee_op (ee_var rfl) ee_int (rb_ixT rfl)) (ee_op (ee_var rfl) ee_int (rb_ixT rfl)) (rb_mulNL l2)) rb_gtN) (congrArg D.bl (more_eq hb))) rfl)
abbrev intsD (l : List Nat) : D := .lst (l.map fun n : Nat => D.int (n : Int))
open CodeM in
abbrev sp_turns (K : PySem.W.Frag) (B : Adr) : Sp := spA2 K (fun (c : CodeM) (most : Nat) => [codeD B.Code c, D.int (most : Nat)]) (fun c most => Wf c ∧ NOk c most) (fun c most => .ok (intsD (c.tn most)))
theorem ok_turns (T : Txt K mg B) : Ok P w K mg base CX0 4 "turns" ["code", "most"] (sp_turns K B) := by
  refine T.d_turns.ok sc_turns (spA_len fun _ => rfl) (fun f cdv A outer s H vs Q E hr h => ⟨_, (pss_cons (ps_set (i := 2) sc_turns.nd rfl (Or.inl rfl) (pe_lst pa_nil))
    (pss_cons (ps_set (i := 3) sc_turns.nd rfl (Or.inl rfl) pe_int)
    (pss_cons (ps_while PassesOwn.never (pt_cmpR op_leG (pe_callH (ok_first_number T) (hr.mono (by first | decide | omega)) rfl pass0 (pa_cons (pv 0) (pa_cons (pv 3) pa_nil))) (pv 1) (nomark _)) (pss_cons (ps_expr (pe_bm PySem.F.plainAttrs_list PySem.F.slot_list_append PySem.F.type_list_append mt_append (pv 2) (pa_cons (pe_callH (ok_first_number T) (hr.mono (by first | decide | omega)) rfl pass0 (pa_cons (pv 0) (pa_cons (pv 3) pa_nil))) pa_nil)))
    (pss_one (ps_aug (i := 3) sc_turns.nd rfl (Or.inl rfl) pe_int ip_add))))
    (pss_one (ps_ret (pv 2)))))), go_fn h fun a W ha => ?_⟩)
  obtain ⟨c, most⟩ := a
  dsimp only at ha
  obtain ⟨wf, hn⟩ := ha
  have hrb := row_bd hn
  have hrl := wf.rl
  walk_at "st0"
  refine st_seq (st_own ea_nil (by decide) (by walk_at "lt") ?_)
  walk_at "fr"
  refine st_seq (st_asg (d := .int ((0 : Nat) : Int)) ee_int (by walk_at "lt") ?_)
  walk_at "fr"
  refine st_seq (st_while (α := Nat) (fun r => [.v (codeD B.Code c), .v (.int (most : Nat)), .own ((List.range r).map fun i => .int (c.first i : Nat)), .v (.int (r : Nat))]) (fun r => r ≤ c.rowOf most + 1) (fun r => c.rowOf most + 1 - r) ⟨0, Fle.refl _, Nat.zero_le _⟩ ?_)
  rintro r hr
  refine ⟨_, et_test (ee_op (ee_call2 (x := c) (y := r) (by walk_at "ea") rfl ⟨wf, by omega⟩ rfl) (ee_var rfl) rb_leN), fun hb => ?_, fun hb => ?_⟩
  · have hb' : c.first r ≤ most := by simpa using hb
    have hr' : r ≤ c.rowOf most := by
      rcases Nat.lt_or_ge (c.rowOf most) r with z | z
      · have h1 := CodeM.first_mono (c := c) (show c.rowOf most + 1 ≤ r from z)
        have h2 := (CodeM.rowOf_ok (c := c) most).2
        omega
      · exact z
    refine st_seq (st_app rfl (ee_call2 (x := c) (y := r) (by walk_at "ea") rfl ⟨wf, by omega⟩ rfl) (by rw [List.length_map, List.length_range]; omega) ?_)
    walk_at "fr"
    refine st_aug1 rfl ?_
    walk_at "fr"
    exact ⟨r + 1, .keep rfl (.keep rfl (.keep (by rw [List.range_succ, List.map_append]; rfl) (.keep rfl .nil))), by omega, by omega⟩
  · have hb' : most < c.first r := by simpa using hb
    have hr' : r = c.rowOf most + 1 := by
      rcases Nat.lt_or_ge (c.rowOf most) r with z | z
      · omega
      · have h1 := CodeM.first_mono (c := c) z
        have h2 := (CodeM.rowOf_ok (c := c) most).1
        omega
    subst hr'
    refine st_frz (i := 2) rfl ?_
    walk_at "fr"
    refine st_ret (ee_var rfl) ?_
    unfold intsD CodeM.tn
    rw [List.map_map]; rfl
/-- a number, and by how much the first is longer there -/
abbrev dfD (one other : CodeM) (n : Nat) : D := .tup [.int (n : Nat), .int (CodeM.df one other n)]
open CodeM in
abbrev sp_differences (K : PySem.W.Frag) (B : Adr) : Sp := spA3 K (fun (one other : CodeM) (most : Nat) => [codeD B.Code one, codeD B.Code other, D.int (most : Nat)]) (fun one other most => Wf one ∧ Wf other ∧ Bd one other most) (fun one other most => .ok (.lst ((tns one other most).map (dfD one other))))
theorem ok_differences (T : Txt K mg B) : Ok P w K mg base CX0 6 "differences" ["one", "other", "most"] (sp_differences K B) := by
  refine T.d_differences.ok sc_differences (spA_len fun _ => rfl) (fun f cdv A outer s H vs Q E hr h => ⟨_, (pss_cons (ps_set (i := 3) sc_differences.nd rfl (Or.inl rfl) (pe_callB (k_sortDI rfl) (by rfl) T.n_sorted (by decide +kernel) (pa_cons (pe_dc (own := [("n", 4)]) rfl sc_differences.nd (k_ilist K rfl (pe_op (k_add K rfl) (pe_callH (ok_turns T) (hr.mono (by first | decide | omega)) rfl pass0 (pa_cons (pv 0) (pa_cons (pv 2) pa_nil))) (pe_callH (ok_turns T) (hr.mono (by first | decide | omega)) rfl pass0 (pa_cons (pv 1) (pa_cons (pv 2) pa_nil))))) (blkOk_by (own := [("n", 4)]) (N := nm_differences) (sc := defScope s_differences) (by decide +kernel)) (fun _ _ _ _ _ => (pg_name (i := 4) sc_differences.nd rfl (Or.inl rfl))) (fun _ _ _ _ _ => pts_nil) (fun _ _ _ _ _ => (pv 4)) (fun _ _ _ _ _ => pe_bl)) pa_nil)))
    (pss_one (ps_ret (pe_lc (own := [("n", 4)]) rfl sc_differences.nd (k_ilist K rfl (pv 3)) (blkOk_by (own := [("n", 4)]) (N := nm_differences) (sc := defScope s_differences) (by decide +kernel)) (fun _ _ _ _ _ => (pg_name (i := 4) sc_differences.nd rfl (Or.inl rfl))) (fun _ _ _ _ _ => pts_nil) (fun _ _ _ _ _ => (pe_tup (pa_cons (pv 4) (pa_cons (pe_op op_subG (pe_callH (ok_size_of T) (hr.mono (by first | decide | omega)) rfl pass0 (pa_cons (pv 0) (pa_cons (pv 4) pa_nil))) (pe_callH (ok_size_of T) (hr.mono (by first | decide | omega)) rfl pass0 (pa_cons (pv 1) (pa_cons (pv 4) pa_nil)))) pa_nil)))))))), go_fn h fun a W ha => ?_⟩)
  obtain ⟨one, other, most⟩ := a
  dsimp only at ha
  obtain ⟨w1, w2, hb⟩ := ha
  have r1 := row_bd hb.n1
  have r2 := row_bd hb.n2
  have l1 := w1.rl
  have l2 := w2.rl
  have len : (one.tn most ++ other.tn most).length ≤ 100000 := by rw [List.length_append, CodeM.tn_len, CodeM.tn_len]; omega
  have len2 : (CodeM.tns one other most).length ≤ _ := srt_len (one.tn most ++ other.tn most)
  walk_at "st0"
  refine st_seq (st_asg (ee_sortDc (ns := one.tn most ++ other.tn most) (js := [4]) (ei_list (ee_is (ee_op (ee_call2 (x := one) (y := most) (by walk_at "ea") rfl ⟨w1, hb.n1⟩ rfl) (ee_call2 (x := other) (y := most) (by walk_at "ea") rfl ⟨w2, hb.n2⟩ rfl) (rb_addL (by rw [List.length_map, List.length_map, CodeM.tn_len, CodeM.tn_len]; omega))) (by rw [List.map_append]))) (by omega) (by decide) (fun i n hn => ⟨_, eg_name (by walk_at "lt"), ee_var rfl, ee_bl⟩)) (by walk_at "lt") ?_)
  walk_at "fr"
  refine st_ret (ee_lcA (ys := CodeM.tns one other most) (gD := fun n : Nat => .int (n : Int)) (js := [4]) (ei_list (ee_var rfl)) (fun n => dfD one other n) (by omega) (by decide) (fun i n hn => ⟨_, eg_name (by walk_at "lt"), ?_⟩)) rfl
  have hle := CodeM.tns_le (List.mem_of_getElem? hn)
  have b2 := hb.mono hle
  exact ee_tup (ea_cons (ee_var rfl) (ea_cons (ee_op (ee_call2 (x := one) (y := n) (by walk_at "ea") rfl ⟨w1, b2.n1⟩ rfl) (ee_call2 (x := other) (y := n) (by walk_at "ea") rfl ⟨w2, b2.n2⟩ rfl) rb_subI) ea_nil)) (by simp)
open CodeM in
abbrev sp_near_number (K : PySem.W.Frag) (B : Adr) : Sp := spA2 K (fun (one other : CodeM) => [codeD B.Code one, codeD B.Code other]) (fun one other => True) (fun one other => .ok (.int (nearM one other : Nat)))
theorem ok_near_number (T : Txt K mg B) : Ok P w K mg base CX0 1 "near_number" ["one", "other"] (sp_near_number K B) := by
  refine T.d_near_number.ok sc_near_number (spA_len fun _ => rfl) (fun f cdv A outer s H vs Q E hr h => ⟨_, (pss_one (ps_ret (pe_callB (call_max2 rfl) (by rfl) T.n_max (by decide +kernel) (pa_cons (k_fld K rfl (pv 0) rfl) (pa_cons (k_fld K rfl (pv 1) rfl) pa_nil))))), go_fn h fun a W ha => ?_⟩)
  obtain ⟨one, other⟩ := a
  walk_at "st0"
  exact st_ret (ee_cb (by walk_at "ea") rc_max2N) rfl
abbrev sp_figures (K : PySem.W.Frag) (B : Adr) : Sp := spA K (fun n : Nat => [D.int (n : Nat)]) (fun n => True) (fun n => .ok (.int (CodeM.figs n : Nat)))
theorem ok_figures (T : Txt K mg B) : Ok P w K mg base CX0 1 "figures" ["number"] (sp_figures K B) := by
  refine T.d_figures.ok sc_figures (spA_len fun _ => rfl) (fun f cdv A outer s H vs Q E hr h => ⟨_, (pss_cons (ps_set (i := 1) sc_figures.nd rfl (Or.inl rfl) pe_int)
    (pss_cons (ps_while PassesOwn.never (k_tru K rfl (pv 0)) (pss_cons (ps_aug (i := 1) sc_figures.nd rfl (Or.inl rfl) pe_int ip_add)
    (pss_one (ps_set (i := 0) sc_figures.nd rfl (Or.inl rfl) (pe_op op_divG (pv 0) pe_int)))))
    (pss_one (ps_ret (pv 1))))), go_fn h fun a W ha => ?_⟩)
  walk_at "st0"
  refine st_seq (st_asg (d := .int ((0 : Nat) : Int)) ee_int (by walk_at "lt") ?_)
  walk_at "fr"
  refine st_seq (st_while (α := Nat × Nat) (fun p => [.v (.int (p.1 : Nat)), .v (.int (p.2 : Nat))]) (fun p => p.2 + CodeM.figs p.1 = CodeM.figs a) (fun p => p.1) ⟨(a, 0), Fle.refl _, Nat.zero_add _⟩ ?_)
  rintro ⟨x, y⟩ hx
  dsimp only at hx ⊢
  refine ⟨_, by walk_at "et", fun hb => ?_, fun hb => ?_⟩
  · have hp : 0 < x := by simp [truD] at hb; omega
    refine st_seq (st_aug1 rfl ?_)
    walk_at "fr"
    refine st_asg (by walk_at "ev") (by walk_at "lt") ?_
    walk_at "fr"
    refine ⟨(x / 2, y + 1), Fle.refl _, ?_, by dsimp only; omega⟩
    have : CodeM.figs x = CodeM.figs (x / 2) + 1 := by rw [CodeM.figs, if_neg (by omega)]
    dsimp only; omega
  · have hp : x = 0 := by simp [truD] at hb; omega
    subst hp
    refine st_ret (ee_var rfl) ?_
    have : CodeM.figs 0 = 0 := by rw [CodeM.figs, if_pos rfl]
    have : y = CodeM.figs a := by omega
    rw [this]
open CodeM in
abbrev sp_far_number (K : PySem.W.Frag) (B : Adr) : Sp := spA2 K (fun (one other : CodeM) => [codeD B.Code one, codeD B.Code other]) (fun one other => Lg one other) (fun one other => .ok (.int (farM one other : Nat)))
theorem ok_far_number (T : Txt K mg B) : Ok P w K mg base CX0 2 "far_number" ["one", "other"] (sp_far_number K B) := by
  refine T.d_far_number.ok sc_far_number (spA_len fun _ => rfl) (fun f cdv A outer s H vs Q E hr h => ⟨_, (pss_cons (ps_par (i := 2) (j := 3) (by rfl) sc_far_number.nd rfl rfl (by decide) rfl rfl (pa_cons (k_fld K rfl (pv 0) rfl) (pa_cons (k_fld K rfl (pv 1) rfl) pa_nil)) (by rfl))
    (pss_cons (ps_set (i := 4) sc_far_number.nd rfl (Or.inl rfl) (pe_callH (ok_near_number T) (hr.mono (by first | decide | omega)) rfl pass0 (pa_cons (pv 0) (pa_cons (pv 1) pa_nil))))
    (pss_cons (ps_if (PW.pt (pw_and (pt_cmpR (k_eq K rfl hr.units) (pe_ix (k_ix K rfl) (pv 2) pe_int (fun _ _ => rfl)) pe_int (nomark _)) (pw_and1 (pt_cmpR (k_eq K rfl hr.units) (pe_ix (k_ix K rfl) (pv 3) pe_int (fun _ _ => rfl)) pe_int (nomark _))))) (pss_one (ps_ret (pe_op (k_add K rfl) (pv 4) (pe_op (k_mul K rfl) pe_int (pe_callH (ok_power T) (hr.mono (by first | decide | omega)) rfl pass0 (pa_cons (pe_callB (call_max2 rfl) (by rfl) T.n_max (by decide +kernel) (pa_cons (pe_ix (k_ix K rfl) (pv 2) pe_int (fun _ _ => rfl)) (pa_cons (pe_ix (k_ix K rfl) (pv 3) pe_int (fun _ _ => rfl)) pa_nil))) pa_nil)))))) pss_nil)
    (pss_cons (ps_if (pt_cmpR (k_eq K rfl hr.units) (pe_ix (k_ix K rfl) (pv 2) pe_int (fun _ _ => rfl)) pe_int (nomark _)) (pss_one (ps_ret (pe_op (k_add K rfl) (pv 4) pe_int))) pss_nil)
    (pss_cons (ps_if (pt_cmpR (k_eq K rfl hr.units) (pe_ix (k_ix K rfl) (pv 3) pe_int (fun _ _ => rfl)) pe_int (nomark _)) (pss_one (ps_ret (pe_op (k_add K rfl) (pv 4) (pe_callH (ok_power T) (hr.mono (by first | decide | omega)) rfl pass0 (pa_cons (pe_op (k_add K rfl) (pe_callB (call_max2 rfl) (by rfl) T.n_max (by decide +kernel) (pa_cons (pe_ix (k_ix K rfl) (pv 2) pe_int (fun _ _ => rfl)) (pa_cons (pe_op (k_add K rfl) (pe_op (k_add K rfl) (pe_ix (k_ix K rfl) (pv 3) pe_int (fun _ _ => rfl)) pe_int) (pe_ix (k_ix K rfl) (pv 2) pe_int (fun _ _ => rfl))) pa_nil))) pe_int) pa_nil))))) pss_nil)
    (pss_one (ps_ret (pe_callH (ok_power T) (hr.mono (by first | decide | omega)) rfl pass0 (pa_cons (pe_op (k_add K rfl) (pe_op (k_add K rfl) (pe_callH (ok_figures T) (hr.mono (by first | decide | omega)) rfl pass0 (pa_cons (pv 4) pa_nil)) (pe_op (k_mul K rfl) (pe_op (k_mul K rfl) pe_int (pe_op (k_add K rfl) (pe_ix (k_ix K rfl) (pv 2) pe_int (fun _ _ => rfl)) pe_int)) (pe_op (k_add K rfl) (pe_ix (k_ix K rfl) (pv 3) pe_int (fun _ _ => rfl)) pe_int))) pe_int) pa_nil))))))))), go_fn h fun a W ha => ?_⟩)
  obtain ⟨one, other⟩ := a
  dsimp only at ha
  obtain ⟨w1, w2, b1, b2, hk⟩ := ha
  have k1 := w1.kl
  have k2 := w2.kl
  have d1 := w1.dl
  have d2 := w2.dl
  have hf : CodeM.figs (CodeM.nearM one other) ≤ 5 := CodeM.figs_le (by show max _ _ < 2 ^ 5; omega)
  have hp : 6 * (one.d + 1) * (other.d + 1) ≤ 6 * 4 * 4 := Nat.mul_le_mul (Nat.mul_le_mul_left _ (by omega)) (by omega)
  walk_at "st0"
  refine st_seq (st_par (by walk_at "ea") (by walk_at "lt") (by walk_at "lt") ?_)
  walk_at "fr"
  refine st_seq (st_asg (ee_call2 (x := one) (y := other) (by walk_at "ea") rfl trivial rfl) (by walk_at "lt") ?_)
  walk_at "fr"
  unfold CodeM.farM
  refine st_seq (st_if (et_and (et_test (ee_op (ee_op (ee_var rfl) ee_int (rb_ixT rfl)) ee_int rb_eqN0)) (fun _ => et_test (ee_op (ee_op (ee_var rfl) ee_int (rb_ixT rfl)) ee_int rb_eqN0))) (fun hb => ?_) (fun hb => st_next ?_))
  · have hb : one.d = 0 ∧ other.d = 0 := by simpa using hb
    rw [if_pos hb.1, if_pos hb.2]
    exact st_ret (ee_op (ee_var rfl) (ee_op ee_int (ee_call (a := max one.k other.k) (ea_cons (ee_cb (ea_cons (ee_op (ee_var rfl) ee_int (rb_ixT rfl)) (ea_cons (ee_op (ee_var rfl) ee_int (rb_ixT rfl)) ea_nil)) rc_max2N) ea_nil) rfl (by omega) rfl) rb_mul2N) rb_addN) rfl
  refine st_seq (st_if (et_test (ee_op (ee_op (ee_var rfl) ee_int (rb_ixT rfl)) ee_int rb_eqN0)) (fun hc => ?_) (fun hc => st_next ?_))
  · have hc : one.d = 0 := by simpa using hc
    have hd : ¬ other.d = 0 := by simp [hc] at hb; omega
    rw [if_pos hc, if_neg hd]
    exact st_ret (ee_op (ee_var rfl) ee_int (rb_addN (b := 16))) rfl
  have hc : ¬ one.d = 0 := by simpa using hc
  refine st_seq (st_if (et_test (ee_op (ee_op (ee_var rfl) ee_int (rb_ixT rfl)) ee_int rb_eqN0)) (fun hd => ?_) (fun hd => st_next ?_))
  · have hd : other.d = 0 := by simpa using hd
    rw [if_neg hc, if_pos hd]
    exact st_ret (ee_op (ee_var rfl) (ee_call (a := max one.k (other.k + 3 + one.d) + 2) (ea_cons (ee_op (ee_cb (ea_cons (ee_op (ee_var rfl) ee_int (rb_ixT rfl)) (ea_cons (ee_op (ee_op (ee_op (ee_var rfl) ee_int (rb_ixT rfl)) ee_int rb_addN3) (ee_op (ee_var rfl) ee_int (rb_ixT rfl)) rb_addN) ea_nil)) rc_max2N) ee_int rb_addN2) ea_nil) rfl (by omega) rfl) rb_addN) rfl
  have hd : ¬ other.d = 0 := by simpa using hd
  rw [if_neg hc, if_neg hd]
  exact st_ret (ee_call (a := CodeM.figs (CodeM.nearM one other) + 6 * (one.d + 1) * (other.d + 1) + 40) (ea_cons (ee_op (ee_op (ee_call (a := CodeM.nearM one other) (by walk_at "ea") rfl trivial rfl) (ee_op (ee_op ee_int (ee_op (ee_op (ee_var rfl) ee_int (rb_ixT rfl)) ee_int rb_addN1) (rb_mulNL (a := 6) (by omega))) (ee_op (ee_op (ee_var rfl) ee_int (rb_ixT rfl)) ee_int rb_addN1) (rb_mulNL (by omega))) rb_addN) ee_int (rb_addN (b := 40))) ea_nil) rfl (by omega) rfl) rfl
open CodeM in
abbrev sp_farther (K : PySem.W.Frag) (B : Adr) : Sp := spA3 K (fun (one other : CodeM) (most : Nat) => [codeD B.Code one, codeD B.Code other, D.int (most : Nat)]) (fun one other most => most < 2 ^ 9000) (fun one other most => .ok (.int (faM one other most : Nat)))
theorem ok_farther (T : Txt K mg B) : Ok P w K mg base CX0 1 "farther" ["one", "other", "most"] (sp_farther K B) := by
  refine T.d_farther.ok sc_farther (spA_len fun _ => rfl) (fun f cdv A outer s H vs Q E hr h => ⟨_, (pss_one (ps_ret (pe_ifExp (PW.pt (pw_and (pt_cmpR op_gtG (pe_ix (k_ix K rfl) (k_fld K rfl (pv 0) rfl) pe_int (fun _ _ => rfl)) pe_int (nomark _)) (pw_and1 (pt_cmpR op_gtG (pe_ix (k_ix K rfl) (k_fld K rfl (pv 1) rfl) pe_int (fun _ _ => rfl)) pe_int (nomark _))))) (pe_op (k_mul K rfl) (pv 2) (pv 2)) (pe_op (k_add K rfl) (pe_op (k_mul K rfl) pe_int (pv 2)) pe_int)))), go_fn h fun a W ha => ?_⟩)
  obtain ⟨one, other, most⟩ := a
  dsimp only at ha
  walk_at "st0"
  unfold CodeM.faM
  refine st_ret (ee_if (et_and (et_test (ee_op (ee_op (by walk_at "ev") ee_int (rb_ixT rfl)) ee_int (rb_gtN (b := 0)))) (fun _ => et_test (ee_op (ee_op (by walk_at "ev") ee_int (rb_ixT rfl)) ee_int (rb_gtN (b := 0))))) (fun hc => ee_is (ee_op (ee_var rfl) (ee_var rfl) (rb_mulNW 9000 9000 ha ha (by decide) (by decide) (by decide))) ?_) (fun hc => ee_is (ee_op (ee_op ee_int (ee_var rfl) rb_mul2N) ee_int (rb_addN (b := 16))) ?_)) rfl
  · have hc : 0 < one.d ∧ 0 < other.d := by simpa using hc
    rw [if_neg (by omega)]
  · have hc : 0 < one.d → other.d = 0 := by simpa using hc
    rw [if_pos (by omega)]
open CodeM in
noncomputable abbrev lgRes (B : Adr) (one other : CodeM) (d : D) : Res := if freeB one = true then (if freeB other = true then .ok d else .err (.ref B.NotFree) none) else .err (.ref B.NotFree) none
abbrev sp_longer (K : PySem.W.Frag) (B : Adr) : Sp := spA2 K (fun (one other : CodeM) => [codeD B.Code one, codeD B.Code other]) (fun one other => CodeM.Lg one other) (fun one other => lgRes B one other (optD (CodeM.lgM one other)))
theorem lg_eq {B : Adr} {one other : CodeM} {d : D} (h1 : freeB one = true) (h2 : freeB other = true) : lgRes B one other d = .ok d := by unfold lgRes; rw [if_pos h1, if_pos h2]
theorem lg_err1 {B : Adr} {one other : CodeM} {d : D} (h1 : freeB one = false) : lgRes B one other d = .err (.ref B.NotFree) none := by unfold lgRes; rw [if_neg (by rw [h1]; decide)]
theorem lg_err2 {B : Adr} {one other : CodeM} {d : D} (h1 : freeB one = true) (h2 : freeB other = false) : lgRes B one other d = .err (.ref B.NotFree) none := by unfold lgRes; rw [if_pos h1, if_neg (by rw [h2]; decide)]
/-- check_free as a statement -/
theorem st_cf {c : Ctx} {n : DE} {ds : Fm} {ta : TA} {B : Adr} {x : CodeM} (h : Ea c ta ds [codeD B.Code x]) (wf : Wf x) (h1 : freeB x = true → n.nx ds) (h2 : freeB x = false → n.er (.ref B.NotFree) none) : St c (tDrop (tCall (sp_check_free c.K B) [] c.X ta)) n ds :=
  st_call (a := x) h rfl wf (fun d hd => h1 (by
    cases e : freeB x with
    | true => rfl
    | false => rw [e] at hd; cases hd)) (fun C o z => by
    cases e : freeB x with
    | true => rw [e] at z; cases z
    | false => rw [e] at z; cases z; exact h2 e)
theorem ok_longer (T : Txt K mg B) : Ok P w K mg base (L2.CX P w) 7 "longer" ["one", "other"] (sp_longer K B) := by
  refine T.d_longer.okX sc_longer (spA_len fun _ => rfl) (fun f cdv A outer s H vs Q E hr h => ⟨_, (pss_cons (ps_expr (pe_callH (ok_check_free T) (hr.mono (by first | decide | omega)) rfl (passes_call (takes_of rfl rfl rfl rfl) fun _ _ _ _ h => h) (pa_cons (pv 0) pa_nil)))
    (pss_cons (ps_expr (pe_callH (ok_check_free T) (hr.mono (by first | decide | omega)) rfl (passes_call (takes_of rfl rfl rfl rfl) fun _ _ _ _ h => h) (pa_cons (pv 1) pa_nil)))
    (pss_cons (ps_set (i := 2) sc_longer.nd rfl (Or.inl rfl) (pe_callH (ok_far_number T) (hr.mono (by first | decide | omega)) rfl pass0 (pa_cons (pv 0) (pa_cons (pv 1) pa_nil))))
    (pss_cons (ps_set (i := 3) sc_longer.nd rfl (Or.inl rfl) (pe_callH (ok_grows_more T) (hr.mono (by first | decide | omega)) rfl pass0 (pa_cons (pv 0) (pa_cons (pv 1) pa_nil))))
    (pss_one (ps_while (passes_of rfl) (k_tru K rfl pe_bl) (pss_cons (ps_setLc (i := 4) (own := [("n", 5), ("less", 6)]) rfl sc_longer.nd rfl rfl (sw_true rfl rfl rfl (by decide +kernel)) (k_ilist K rfl (pe_callH (ok_differences T) (hr.mono (by first | decide | omega)) rfl pass0 (pa_cons (pv 0) (pa_cons (pv 1) (pa_cons (pv 2) pa_nil))))) (blkOk_by (own := [("n", 5), ("less", 6)]) (N := nm_longer) (sc := defScope s_longer) (by decide +kernel)) (fun _ _ _ _ _ => (k_tup (n := 2) K rfl rfl (pgs_cons (pg_name (i := 5) sc_longer.nd rfl (Or.inl rfl)) (pgs_cons (pg_name (i := 6) sc_longer.nd rfl (Or.inl rfl)) pgs_nil)))) (fun _ _ _ _ _ => pts_one (pt_cmpR op_gtG (pv 6) pe_int (nomark _))) (fun _ _ _ _ _ => (pv 5)))
    (pss_cons (ps_if (k_tru K rfl (pv 4)) (pss_one (ps_ret (pe_ix (k_ix K rfl) (pv 4) pe_int (fun _ _ => rfl)))) pss_nil)
    (pss_cons (ps_if (pt_not (k_tru K rfl (pv 3))) (pss_one (ps_ret pe_non)) pss_nil)
    (pss_one (ps_set (i := 2) sc_longer.nd rfl (Or.inl rfl) (pe_callH (ok_farther T) (hr.mono (by first | decide | omega)) rfl pass0 (pa_cons (pv 0) (pa_cons (pv 1) (pa_cons (pv 2) pa_nil))))))))))))))), go_fn h fun a W ha => ?_⟩)
  obtain ⟨one, other⟩ := a
  dsimp only at ha
  have L := ha
  have w1 := L.w1
  have w2 := L.w2
  have fb := CodeM.far_bd L
  walk_at "st0"
  refine st_seq (st_cf (by walk_at "ea") w1 (fun f1 => ?_) (fun f1 => lg_err1 f1))
  refine st_seq (st_cf (by walk_at "ea") w2 (fun f2 => ?_) (fun f2 => lg_err2 f1 f2))
  dsimp only
  rw [lg_eq f1 f2]
  refine st_seq (st_asg (ee_call2 (x := one) (y := other) (by walk_at "ea") rfl L rfl) (by walk_at "lt") ?_)
  walk_at "fr"
  refine st_seq (st_asg (ee_call2 (x := one) (y := other) (by walk_at "ea") rfl ⟨w1, w2⟩ rfl) (by walk_at "lt") ?_)
  walk_at "fr"
  refine st_while (α := Nat) (fun most => [.v (codeD B.Code one), .v (codeD B.Code other), .v (.int (most : Nat)), .v (.bl (CodeM.moreB one other)), .no, .no, .no]) (fun most => CodeM.Bd one other most ∧ 2 ≤ most ∧ (CodeM.moreB one other = false → most = CodeM.farM one other)) (fun most => CodeM.posM one other + 1 - most) ⟨CodeM.farM one other, Fle.refl _, fb, CodeM.far_2, fun _ => rfl⟩ ?_
  rintro most ⟨bd, m2, mf⟩
  refine ⟨_, et_tb ee_bl, fun _ => ?_, fun z => nomatch z⟩
  have r1 := row_bd bd.n1
  have r2 := row_bd bd.n2
  have l1 := w1.rl
  have l2 := w2.rl
  have len2 : (CodeM.tns one other most).length ≤ _ := srt_len (one.tn most ++ other.tn most)
  rw [List.length_append, CodeM.tn_len, CodeM.tn_len] at len2
  refine st_seq (st_asg (ee_lcF (ys := CodeM.tns one other most) (gD := dfD one other) (js := [5] ++ ([6] ++ [])) (ei_list (ee_call3 (x := one) (y := other) (z := most) (by walk_at "ea") rfl ⟨w1, w2, bd⟩ rfl)) (fun n => decide (0 < CodeM.df one other n)) (fun n => .int (n : Nat)) (by omega) (by decide) (fun i n hn => ⟨_, eg_tup rfl (egs_cons (eg_name (by walk_at "lt")) (egs_cons (eg_name (by walk_at "lt")) egs_nil)), et_test (ee_op (ee_var rfl) ee_int rb_gt), fun _ => ee_var rfl⟩)) (by walk_at "lt") ?_)
  walk_at "fr"
  have t1 := fun k (h : k < most + 1) => CodeM.tns_for (one := one) (other := other) (most := most) (Nat.le_of_lt_succ h)
  cases e : (CodeM.tns one other most).filter (fun n => decide (0 < CodeM.df one other n)) with
  | cons n rest =>
    have hl := CodeM.lg_some (top := most + 1) ((srt_up _).imp fun h => Nat.le_of_lt h) t1 (fun k hk => by have := CodeM.tns_le hk; omega) e
    refine st_seq (st_if (et_truG (ee_var rfl) trivial) (fun _ => st_ret (d := .int (n : Nat)) (ee_op (ee_var rfl) ee_int (rb_ixL (atI_map (j := 0) rfl))) ?_) (fun z => nomatch z))
    rw [hl]; rfl
  | nil =>
    have hn := CodeM.lg_none (top := most + 1) t1 e
    refine st_seq (st_if (et_truG (ee_var rfl) trivial) (fun z => nomatch z) (fun _ => st_next ?_))
    refine st_seq (st_if (et_not (et_tb (ee_var rfl))) (fun hb => ?_) (fun hb => st_next ?_))
    · have hb : CodeM.moreB one other = false := by simpa using hb
      have := mf hb
      subst this
      refine st_ret ee_non ?_
      rw [CodeM.lg_far w1 w2 hb (fun k hk => hn k (by omega))]; rfl
    · have hb : CodeM.moreB one other = true := by simpa using hb
      have hp := CodeM.pos_ok L hb
      have hlt : most < CodeM.posM one other := by
        rcases Nat.lt_or_ge most (CodeM.posM one other) with z | z
        · exact z
        · exact absurd hp (hn _ (by omega))
      refine st_asg (ee_call3 (x := one) (y := other) (z := most) (by walk_at "ea") rfl bd.s rfl) (by walk_at "lt") ?_
      walk_at "fr"
      have hg := CodeM.fa_lt (one := one) (other := other) m2
      exact ⟨CodeM.faM one other most, .keep rfl (.keep rfl (.keep rfl (.keep rfl (.drop (Fle.refl _))))), ⟨(CodeM.pos_bd L hb).mono (CodeM.fa_mono (Nat.le_of_lt hlt)), by omega, fun z => by rw [hb] at z; cases z⟩, by omega⟩
noncomputable def gapD (one other : CodeM) : D := if CodeM.moreB one other = true then .non else .int (CodeM.gpM one other)
abbrev sp_gap (K : PySem.W.Frag) (B : Adr) : Sp := spA2 K (fun (one other : CodeM) => [codeD B.Code one, codeD B.Code other]) (fun one other => CodeM.Lg one other) (fun one other => lgRes B one other (gapD one other))
theorem ok_gap (T : Txt K mg B) : Ok P w K mg base (L2.CX P w) 7 "gap" ["one", "other"] (sp_gap K B) := by
  refine T.d_gap.okX sc_gap (spA_len fun _ => rfl) (fun f cdv A outer s H vs Q E hr h => ⟨_, (pss_cons (ps_expr (pe_callH (ok_check_free T) (hr.mono (by first | decide | omega)) rfl (passes_call (takes_of rfl rfl rfl rfl) fun _ _ _ _ h => h) (pa_cons (pv 0) pa_nil)))
    (pss_cons (ps_expr (pe_callH (ok_check_free T) (hr.mono (by first | decide | omega)) rfl (passes_call (takes_of rfl rfl rfl rfl) fun _ _ _ _ h => h) (pa_cons (pv 1) pa_nil)))
    (pss_cons (ps_if (k_tru K rfl (pe_callH (ok_grows_more T) (hr.mono (by first | decide | omega)) rfl pass0 (pa_cons (pv 0) (pa_cons (pv 1) pa_nil)))) (pss_one (ps_ret pe_non)) pss_nil)
    (pss_one (ps_ret (pe_callB (k_max K rfl rfl) (by rfl) T.n_max (by decide +kernel) (pa_cons (pe_lc (own := [("n", 2), ("less", 3)]) rfl sc_gap.nd (k_ilist K rfl (pe_callH (ok_differences T) (hr.mono (by first | decide | omega)) rfl pass0 (pa_cons (pv 0) (pa_cons (pv 1) (pa_cons (pe_callH (ok_far_number T) (hr.mono (by first | decide | omega)) rfl pass0 (pa_cons (pv 0) (pa_cons (pv 1) pa_nil))) pa_nil))))) (blkOk_by (own := [("n", 2), ("less", 3)]) (N := nm_gap) (sc := defScope s_gap) (by decide +kernel)) (fun _ _ _ _ _ => (k_tup (n := 2) K rfl rfl (pgs_cons (pg_name (i := 2) sc_gap.nd rfl (Or.inl rfl)) (pgs_cons (pg_name (i := 3) sc_gap.nd rfl (Or.inl rfl)) pgs_nil)))) (fun _ _ _ _ _ => pts_nil) (fun _ _ _ _ _ => (pv 3))) pa_nil))))))), go_fn h fun a W ha => ?_⟩)
  obtain ⟨one, other⟩ := a
  dsimp only at ha
  have L := ha
  have w1 := L.w1
  have w2 := L.w2
  have bd := CodeM.far_bd L
  walk_at "st0"
  refine st_seq (st_cf (by walk_at "ea") w1 (fun f1 => ?_) (fun f1 => lg_err1 f1))
  refine st_seq (st_cf (by walk_at "ea") w2 (fun f2 => ?_) (fun f2 => lg_err2 f1 f2))
  dsimp only
  rw [lg_eq f1 f2]
  unfold gapD
  refine st_seq (st_if (et_tb (ee_call2 (x := one) (y := other) (by walk_at "ea") rfl ⟨w1, w2⟩ rfl)) (fun hb => ?_) (fun hb => st_next ?_))
  · rw [if_pos hb]
    exact st_ret ee_non rfl
  · rw [if_neg (by rw [hb]; decide)]
    have r1 := row_bd bd.n1
    have r2 := row_bd bd.n2
    have l1 := w1.rl
    have l2 := w2.rl
    have len2 : (CodeM.tns one other (CodeM.farM one other)).length ≤ _ := srt_len (one.tn (CodeM.farM one other) ++ other.tn (CodeM.farM one other))
    rw [List.length_append, CodeM.tn_len, CodeM.tn_len] at len2
    refine st_ret (ee_cb (ea_cons (ee_is (ee_lcA (ys := CodeM.tns one other (CodeM.farM one other)) (gD := dfD one other) (js := [2] ++ ([3] ++ [])) (ei_list (ee_call3 (x := one) (y := other) (z := CodeM.farM one other) (ea_cons (ee_var rfl) (ea_cons (ee_var rfl) (ea_cons (ee_call2 (x := one) (y := other) (by walk_at "ea") rfl L rfl) ea_nil))) rfl ⟨w1, w2, bd⟩ rfl)) (fun n => .int (CodeM.df one other n)) (by omega) (by decide) (fun i n hn => ⟨_, eg_tup rfl (egs_cons (eg_name (by walk_at "lt")) (egs_cons (eg_name (by walk_at "lt")) egs_nil)), ee_var rfl⟩)) (by rw [List.map_map]; rfl)) ea_nil) (rc_maxI (fun z => CodeM.tns_ne _ (List.map_eq_nil_iff.mp z)))) rfl

--@@part
/-! ### codes people use: what is known of them -/
def onesC (k : Nat) : CodeM := ⟨[], [true], [false], k, 0⟩
def gamC : CodeM := ⟨[], [true], [false], 0, 1⟩
def zerC (k : Nat) : CodeM := ⟨[], [false], [true], k, 0⟩
def halfC (k : Nat) : CodeM := ⟨[([false], k)], [true], [true, false], 0, 1⟩
def sparC (k : Nat) : CodeM := ⟨[([false, false], k)], [true], [false], 0, 0⟩
def goneC (k : Nat) : CodeM := ⟨[([false, false], k)], [true], [true, false], 0, 0⟩
theorem wf_flat {a s : List Bool} {k d : Nat} (h1 : 1 ≤ a.length) (h2 : a.length ≤ 4) (h3 : s.length ≤ 4) (h4 : k ≤ 8) (h5 : d ≤ 3) : Wf ⟨[], a, s, k, d⟩ := ⟨Nat.zero_le _, fun r h => (nomatch h), h1, h2, h3, h4, h5⟩
theorem wf_one {x a s : List Bool} {j k d : Nat} (h0 : 1 ≤ x.length ∧ x.length ≤ 8 ∧ j ≤ 8) (h1 : 1 ≤ a.length) (h2 : a.length ≤ 4) (h3 : s.length ≤ 4) (h4 : k ≤ 8) (h5 : d ≤ 3) : Wf ⟨[(x, j)], a, s, k, d⟩ := ⟨(show 1 ≤ 6 by decide), fun r h => by rw [List.mem_singleton.mp h]; exact h0, h1, h2, h3, h4, h5⟩
theorem ones_wf {k : Nat} (h : k < 9) : Wf (onesC k) := wf_flat (by decide) (by decide) (by decide) (by omega) (by decide)
theorem gam_wf : Wf gamC := wf_flat (by decide) (by decide) (by decide) (by decide) (by decide)
theorem zer_wf {k : Nat} (h : k < 9) : Wf (zerC k) := wf_flat (by decide) (by decide) (by decide) (by omega) (by decide)
theorem half_wf {k : Nat} (h : k < 9) : Wf (halfC k) := wf_one ⟨by decide, by decide, by omega⟩ (by decide) (by decide) (by decide) (by decide) (by decide)
theorem spar_wf {k : Nat} (h : k < 9) : Wf (sparC k) := wf_one ⟨by decide, by decide, by omega⟩ (by decide) (by decide) (by decide) (by decide) (by decide)
theorem gone_wf {k : Nat} (h : k < 9) : Wf (goneC k) := wf_one ⟨by decide, by decide, by omega⟩ (by decide) (by decide) (by decide) (by decide) (by decide)
abbrev anyB (c : CodeM) : Bool := (((List.range 10).flatMap fun r => (List.range 10).map fun s => c.clashB r s).any id)
theorem any_free {c : CodeM} (wf : Wf c) (hn : c.near ≤ 10) (h : anyB c = false) : freeB c = true := by
  rw [← freeB_any wf hn]
  unfold anyB at h
  rw [h]; rfl
theorem ones_any : ∀ k, k < 9 → (onesC k).near ≤ 10 ∧ anyB (onesC k) = false := by decide +kernel
theorem zer_any : ∀ k, k < 9 → (zerC k).near ≤ 10 ∧ anyB (zerC k) = false := by decide +kernel
theorem half_any : ∀ k, k < 9 → (halfC k).near ≤ 10 ∧ anyB (halfC k) = false := by decide +kernel
theorem gone_any : ∀ k, k < 9 → (goneC k).near ≤ 10 ∧ anyB (goneC k) = false := by decide +kernel
theorem gam_any : gamC.near ≤ 10 ∧ anyB gamC = false := by decide +kernel
theorem ones_free {k : Nat} (h : k < 9) : freeB (onesC k) = true := any_free (ones_wf h) (ones_any k h).1 (ones_any k h).2
theorem zer_free {k : Nat} (h : k < 9) : freeB (zerC k) = true := any_free (zer_wf h) (zer_any k h).1 (zer_any k h).2
theorem half_free {k : Nat} (h : k < 9) : freeB (halfC k) = true := any_free (half_wf h) (half_any k h).1 (half_any k h).2
theorem gone_free {k : Nat} (h : k < 9) : freeB (goneC k) = true := any_free (gone_wf h) (gone_any k h).1 (gone_any k h).2
theorem gam_free : freeB gamC = true := any_free gam_wf gam_any.1 gam_any.2
theorem spar_not {k : Nat} (h : k < 9) : freeB (sparC k) = false := by
  have : ∀ k, k < 9 → (sparC k).clashB 1 0 = true := by decide +kernel
  exact free_not (this k h)
/-! gamma -/
theorem gam_kk (r : Nat) : gamC.kk r = r := by
  unfold CodeM.kk
  rw [CodeM.row_ge (show gamC.rows.length ≤ r from Nat.zero_le _)]
  show 0 + 1 * (r - 0) = r
  omega
theorem gam_head (r : Nat) : gamC.head r = rep [true] r ++ [false] := by
  unfold CodeM.head
  rw [CodeM.row_ge (show gamC.rows.length ≤ r from Nat.zero_le _)]; rfl
theorem gam_first (r : Nat) : gamC.first r + 1 = 2 ^ r := by
  induction r with
  | zero => rfl
  | succ r ih => rw [CodeM.first_succ, gam_kk, Nat.pow_succ]; omega
theorem gam_size (n : Nat) : gamC.size n = 2 * gamC.rowOf n + 1 := by
  unfold CodeM.size
  rw [gam_kk, gam_head, List.length_append, rep_len]
  show gamC.rowOf n * 1 + 1 + gamC.rowOf n = _
  omega
theorem gam_figs (n : Nat) : CodeM.figs (n + 1) = gamC.rowOf n + 1 := by
  have h := CodeM.rowOf_ok (c := gamC) n
  have f1 := gam_first (gamC.rowOf n)
  have f2 := gam_first (gamC.rowOf n + 1)
  have h1 := CodeM.figs_le (n := n + 1) (k := gamC.rowOf n + 1) (by omega)
  have h2 := CodeM.figs_lt (n + 1)
  have h3 : gamC.rowOf n < CodeM.figs (n + 1) := CodeM.pw_inv (by omega)
  omega
def lastB (n : Nat) : Bool := decide (n % 2 = 0) && decide (0 < n)
theorem gam_last (n : Nat) : (gamC.bits n).drop ((gamC.bits n).length - 1) = [lastB n] := by
  have h := CodeM.rowOf_ok (c := gamC) n
  have f1 := gam_first (gamC.rowOf n)
  have f2 := gam_first (gamC.rowOf n + 1)
  have hb : gamC.bits n = rep [true] (gamC.rowOf n) ++ [false] ++ CodeM.plc (n - gamC.first (gamC.rowOf n)) (gamC.rowOf n) := by
    unfold CodeM.bits; rw [gam_head, gam_kk]
  generalize gamC.rowOf n = r at h f1 f2 hb
  generalize gamC.first r = f at h f1 hb
  cases r with
  | zero =>
    have hf : f = 0 := by simpa using f1
    have hn : n = 0 := by
      have : gamC.first (0 + 1) = 1 := rfl
      omega
    subst hn
    rw [hb]
    subst hf
    rfl
  | succ r =>
    have e : rep [true] (r + 1) ++ [false] ++ CodeM.plc (n - f) (r + 1) = (rep [true] (r + 1) ++ [false] ++ CodeM.plc ((n - f) / 2) r) ++ [(n - f) % 2 == 1] := by
      rw [CodeM.plc, List.append_assoc, List.append_assoc, List.append_assoc]
    rw [hb, e, List.length_append, List.length_singleton, Nat.add_sub_cancel, List.drop_left]
    congr 1
    rw [Nat.pow_succ] at f1
    unfold lastB
    have p := CodeM.pow_ge_one r
    have hp : 0 < n := by omega
    rw [decide_eq_true hp, Bool.and_true]
    have : (n - f) % 2 = (n + 1) % 2 := by omega
    rw [this]
    have : n % 2 = 0 ∨ n % 2 = 1 := by omega
    rcases this with q | q
    · rw [q, show (n + 1) % 2 = 1 by omega]; rfl
    · rw [q, show (n + 1) % 2 = 0 by omega]; rfl
/-- each bits begin so, or begin with such -/
theorem run_or : ∀ l : List Bool, (∃ r, l <+: rep [true] r ++ [false]) ∨ ∃ r, rep [true] r ++ [false] <+: l
  | [] => .inl ⟨0, List.nil_prefix⟩
  | false :: l => .inr ⟨0, List.cons_prefix_cons.mpr ⟨rfl, List.nil_prefix⟩⟩
  | true :: l => by
    rcases run_or l with ⟨r, h⟩ | ⟨r, h⟩
    · exact .inl ⟨r + 1, List.cons_prefix_cons.mpr ⟨rfl, h⟩⟩
    · exact .inr ⟨r + 1, List.cons_prefix_cons.mpr ⟨rfl, h⟩⟩
theorem dead_no {c : CodeM} {l : List Bool} (h : ∃ r, l <+: c.head r ∨ c.head r <+: l) : c.deadB l = false := by
  rw [CodeM.dead_eq]
  obtain ⟨r, h | h⟩ := h
  · have : ¬ (c.stN l).isNone = true := fun z => CodeM.st_isNone.mp z (CodeM.cut_iff.mpr ⟨r, .inl h⟩)
    rw [Bool.not_eq_true] at this
    rw [this]; rfl
  · rcases Nat.le_total ((c.head r).length + c.kk r) l.length with z | z
    · rw [CodeM.whole_yes h z, Bool.not_true, Bool.and_false]
    · have : ¬ (c.stN l).isNone = true := fun q => CodeM.st_isNone.mp q (CodeM.cut_iff.mpr ⟨r, .inr ⟨h, z⟩⟩)
      rw [Bool.not_eq_true] at this
      rw [this]; rfl
theorem dead_yes {c : CodeM} {l : List Bool} (h : ∀ r, ¬ l <+: c.head r ∧ ¬ c.head r <+: l) : c.deadB l = true := by
  rw [CodeM.dead_eq, CodeM.whole_no (fun r hr => absurd hr (h r).2), Bool.not_false, Bool.and_true, CodeM.st_isNone]
  intro z
  obtain ⟨r, q | q⟩ := CodeM.cut_iff.mp z
  · exact (h r).1 q
  · exact (h r).2 q.1
theorem gam_dead : gamC.deadB = fun _ => false := funext fun l => dead_no (by
  rcases run_or l with ⟨r, h⟩ | ⟨r, h⟩
  · exact ⟨r, .inl (by rw [gam_head]; exact h)⟩
  · exact ⟨r, .inr (by rw [gam_head]; exact h)⟩)
theorem gam_deadL : deadL gamC 5 = [] := by
  have h : ∀ t, deadAt gamC t = [] := fun t => by
    unfold deadAt
    rw [gam_dead, List.filter_eq_nil_iff]
    intro b _
    exact Bool.false_ne_true
  simp only [deadL, h, List.append_nil]
theorem gone_head (i : Nat) : ∀ k, (goneC k).head (i + 1) = true :: (rep [true] i ++ [false]) := fun k => by
  have h := CodeM.head_tail' (c := goneC k) i
  rw [show (goneC k).rows.length = 1 from rfl, Nat.add_comm] at h
  rw [h]
  show rep [true] i ++ [true, false] = _
  clear h
  induction i with
  | zero => rfl
  | succ i ih =>
    show true :: (rep [true] i ++ [true, false]) = _
    rw [ih]; rfl
theorem gone_dead (k : Nat) : (goneC k).deadB = fun l => [false, true].isPrefixOf l := funext fun l => by
  have h0 : (goneC k).head 0 = [false, false] := rfl
  match l with
  | [] => exact dead_no ⟨0, .inl List.nil_prefix⟩
  | [false] => exact dead_no ⟨0, .inl (by rw [h0]; decide)⟩
  | false :: false :: t => exact dead_no ⟨0, .inr (by rw [h0]; exact ⟨t, rfl⟩)⟩
  | false :: true :: t =>
    refine dead_yes fun r => ?_
    cases r with
    | zero => rw [h0]; exact ⟨fun z => absurd (List.cons_prefix_cons.mp (List.cons_prefix_cons.mp z).2).1 (by decide), fun z => absurd (List.cons_prefix_cons.mp (List.cons_prefix_cons.mp z).2).1 (by decide)⟩
    | succ r => rw [gone_head]; exact ⟨fun z => absurd (List.cons_prefix_cons.mp z).1 (by decide), fun z => absurd (List.cons_prefix_cons.mp z).1 (by decide)⟩
  | true :: t =>
    show _ = false
    refine dead_no ?_
    rcases run_or t with ⟨r, h⟩ | ⟨r, h⟩
    · exact ⟨r + 1, .inl (by rw [gone_head]; exact List.cons_prefix_cons.mpr ⟨rfl, h⟩)⟩
    · exact ⟨r + 1, .inr (by rw [gone_head]; exact List.cons_prefix_cons.mpr ⟨rfl, h⟩)⟩
theorem gone_deadL (k : Nat) : deadL (goneC k) 4 = [[false, true]] := by
  simp only [deadL, deadAt, gone_dead]
  decide +kernel
/-! orders -/
theorem up_least {c : CodeM} (hl : c.rows.length = 0) (h : c.up 0 = true) : ordD c c.least = .non := by
  rw [CodeM.least_eq (CodeM.least_none (n := 1) (by omega) fun r hr => by have : r = 0 := by omega
                                                                          subst this; exact h)]; rfl
theorem ones_ord (k : Nat) : ordD (onesC k) (onesC k).least = .non := up_least rfl rfl
theorem gam_ord : ordD gamC gamC.least = .non := up_least rfl rfl
theorem zer_ord (k : Nat) : ordD (zerC k) (zerC k).least = .int ((2 ^ k - 1 : Nat) : Int) := by
  rw [CodeM.least_eq (o := some 0) ⟨rfl, fun r z => absurd z (Nat.not_lt_zero _)⟩]
  have : (zerC k).first 1 = 2 ^ k := by
    show 0 + 2 ^ (k + 0 * 0) = _
    rw [Nat.zero_add]; rfl
  show D.int (((zerC k).first 1 - 1 : Nat) : Int) = _
  rw [this]
/-! sizes -/
theorem ones_size (k n : Nat) : (onesC k).size n = n / 2 ^ k + 1 + k := by
  have h := CodeM.size_flat (c := onesC k) rfl (n := n) (Nat.zero_le _)
  rw [h]
  show (1 + 0) * (n / 2 ^ k) + (1 + k) = n / 2 ^ k + 1 + k
  omega
theorem lg_og {k : Nat} (h : k < 9) : CodeM.Lg (onesC k) gamC := ⟨ones_wf h, gam_wf, Nat.zero_le _, Nat.zero_le _, fun _ z => absurd z (by decide)⟩
theorem lg_go {k : Nat} (h : k < 9) : CodeM.Lg gamC (onesC k) := ⟨gam_wf, ones_wf h, Nat.zero_le _, Nat.zero_le _, fun z => absurd z (by decide)⟩
theorem lg_gg : CodeM.Lg gamC gamC := ⟨gam_wf, gam_wf, Nat.zero_le _, Nat.zero_le _, fun z => absurd z (by decide)⟩
theorem lg_ogSome {k : Nat} (h : k < 9) : CodeM.lgM (onesC k) gamC ≠ none := CodeM.lg_more (lg_og h) rfl
theorem lg_goSome (k : Nat) : CodeM.lgM gamC (onesC k) ≠ none := fun z => by
  refine lst_none z (gamC.first (k + 1)) ?_
  have f := gam_first (k + 1)
  unfold CodeM.df
  rw [gam_size, CodeM.rowOf_first, ones_size]
  have q := CodeM.pow_ge_one k
  rw [Nat.pow_succ] at f
  have : gamC.first (k + 1) / 2 ^ k < 2 := Nat.div_lt_of_lt_mul (by omega)
  omega
theorem lg_ggNone : CodeM.lgM gamC gamC = none := lst_eq fun n hn => by
  have : CodeM.df gamC gamC n = 0 := Int.sub_self _
  omega
theorem gap_og (k : Nat) : gapD (onesC k) gamC = .non := by unfold gapD; exact if_pos rfl
theorem gap_gg : gapD gamC gamC = .int 0 := by
  have hz : ∀ n, CodeM.df gamC gamC n = 0 := fun n => Int.sub_self _
  unfold gapD
  rw [if_neg (by decide)]
  congr 1
  unfold CodeM.gpM
  obtain ⟨p, hp, _⟩ := CodeM.tns_for (one := gamC) (other := gamC) (Nat.zero_le (CodeM.farM gamC gamC))
  exact maxI_eq (List.mem_map.mpr ⟨p, hp, hz p⟩) fun x hx => by
    obtain ⟨n, _, rfl⟩ := List.mem_map.mp hx
    rw [hz]; exact Int.le_refl _
/-! beginnings -/
theorem gam_hm11 : gamC.hmN [true, true] = none := CodeM.hm_inf (by unfold CodeM.Inf; decide)
theorem gam_hm10 : gamC.hmN [true, false] = some 2 := by
  rw [CodeM.hm_fin (by decide) (by unfold CodeM.Inf; decide) (N := 4) (by decide)]
  decide +kernel
theorem gone_hm {k : Nat} (h : k < 9) : (goneC k).hmN [false] = some (2 ^ k) := by
  have h1 : ∀ k, k < 9 → ¬ (goneC k).Inf [false] := by unfold CodeM.Inf; decide +kernel
  have h2 : ∀ k, k < 9 → (((goneC k).rowsN [false] 4).map (·.2)).sum = 2 ^ k := by decide +kernel
  rw [CodeM.hm_fin (Nat.le_refl _) (h1 k h) (N := 4) (by rw [show (goneC k).rows.length = 1 from rfl, show (goneC k).again.length = 1 from rfl]; decide), h2 k h]
theorem half_st0 {k : Nat} (h : k < 9) : (halfC k).stN [false] = some 0 := by
  have h1 : ∀ k, k < 9 → [false] <+: (halfC k).bits 0 := by decide +kernel
  exact lst_eq ⟨h1 k h, fun j hj => absurd hj (Nat.not_lt_zero _)⟩
theorem first_one {x : List Bool} {j : Nat} {a s : List Bool} {k d : Nat} : (⟨[(x, j)], a, s, k, d⟩ : CodeM).first 1 = 2 ^ j := by
  show 0 + 2 ^ j = _
  exact Nat.zero_add _
theorem row_zero {c : CodeM} {j : Nat} (h : j < c.first 1) : c.rowOf j = 0 := CodeM.rowOf_eq (Nat.zero_le _) h
theorem half_st10 {k : Nat} (h : k < 9) : (halfC k).stN [true, false] = some (2 ^ k) := by
  have h1 : ∀ k, k < 9 → [true, false] <+: (halfC k).bits (2 ^ k) := by decide +kernel
  refine lst_eq ⟨h1 k h, fun j hj hp => ?_⟩
  have e : (halfC k).rowOf j = 0 := row_zero (by rw [show (halfC k).first 1 = 2 ^ k from first_one]; exact hj)
  have hp : [true, false] <+: (halfC k).bits j := hp
  unfold CodeM.bits at hp
  rw [e] at hp
  exact absurd (List.cons_prefix_cons.mp hp).1 (by decide)
theorem spar_cl {k : Nat} (h : k < 9) : (sparC k).Cl (2 ^ k) 0 := by
  have h1 : ∀ k, k < 9 → (sparC k).bits (2 ^ k) <+: (sparC k).bits 0 := by decide +kernel
  exact ⟨fun z => absurd (CodeM.pow_ge_one k) (by omega), h1 k h⟩
theorem spar_head (i k : Nat) : (sparC k).head (i + 1) = rep [true] i ++ [false] := by
  have h := CodeM.head_tail' (c := sparC k) i
  rw [show (sparC k).rows.length = 1 from rfl, Nat.add_comm] at h
  rw [h]; rfl
theorem spar_kk (i k : Nat) : (sparC k).kk (i + 1) = 0 := by
  unfold CodeM.kk
  rw [CodeM.row_ge (show (sparC k).rows.length ≤ i + 1 from Nat.le_add_left _ _)]
  show 0 + 0 * _ = 0
  omega
theorem spar_clash {k : Nat} (h : k < 9) : clashD (sparC k) = .tup [.int ((2 ^ k : Nat) : Int), .int ((0 : Nat) : Int)] := by
  have e1 : (sparC k).cn = some (2 ^ k) := lst_eq ⟨⟨0, spar_cl h⟩, fun j hj ⟨m, hm, hp⟩ => by
    have e : (sparC k).rowOf j = 0 := row_zero (by rw [show (sparC k).first 1 = 2 ^ k from first_one]; exact hj)
    cases er : (sparC k).rowOf m with
    | zero => exact hm (CodeM.same_row (by rw [e, er]) hp).symm
    | succ i =>
      unfold CodeM.bits at hp
      rw [e, er, spar_head, spar_kk] at hp
      have hl := hp.length_le
      cases i with
      | zero =>
        rw [List.length_append, CodeM.plc_len] at hl
        have h0 : ((sparC k).head 0).length = 2 := rfl
        have h2 : (rep [true] 0 ++ [false] ++ CodeM.plc (m - (sparC k).first (0 + 1)) 0).length = 1 := rfl
        omega
      | succ i => exact absurd (List.cons_prefix_cons.mp hp).1 (by decide)⟩
  have e2 : (sparC k).lo (2 ^ k) = some 0 := lst_eq ⟨spar_cl h, fun j hj => absurd hj (Nat.not_lt_zero _)⟩
  unfold clashD
  rw [e1]
  dsimp only
  rw [e2]
theorem sh_ones {k : Nat} (h : k < 9) : lowD (shT (onesC k)) (shB (onesC k)) = .tup [.int 1, .int 1] := by
  have : ∀ k, k < 9 → shT (onesC k) = 512 ∧ shB (onesC k) = 512 := by decide +kernel
  rw [(this k h).1, (this k h).2]; rfl
theorem sh_gam : lowD (shT gamC) (shB gamC) = .tup [.int 1, .int 1] := rfl
theorem sh_half {k : Nat} (h : k < 9) : lowD (shT (halfC k)) (shB (halfC k)) = .tup [.int 1, .int 1] := by
  have : ∀ k, k < 9 → shT (halfC k) = 1024 ∧ shB (halfC k) = 1024 := by decide +kernel
  rw [(this k h).1, (this k h).2]; rfl
theorem sh_gone {k : Nat} (h : k < 9) : lowD (shT (goneC k)) (shB (goneC k)) = .tup [.int 3, .int 4] := by
  have : ∀ k, k < 9 → shT (goneC k) = 768 ∧ shB (goneC k) = 1024 := by decide +kernel
  rw [(this k h).1, (this k h).2]; rfl
theorem gr_gam : grD gamC = .tup [.str "figure", .tup [.int 2, .int 1]] := rfl
theorem bs_last1 (l : List Bool) : cutS (bs l) (some (-1)) none = bs (l.drop (l.length - 1)) := by
  rw [bs_cutS, HT.sIx_none]
  congr 1
  have e : HT.sIx l.length 0 (some (-1)) = l.length - 1 := by
    show (if (-1 : Int) < 0 then ((-1 : Int) + (l.length : Int)).toNat else min (-1 : Int).toNat l.length) = _
    rw [if_pos (by decide)]; omega
  rw [e, List.take_of_length_le (by rw [List.length_drop]; omega)]
theorem rs_last1 {K : PySem.W.Frag} {l : List Bool} (h : l.length ≤ 1000000) : Rs K (rSlG K) (.str (bs l)) (some (-1)) none (.str (bs (l.drop (l.length - 1)))) := by
  rw [← bs_last1]; exact rs_str (by rw [bs_len]; exact h)
abbrev sp_l_figures (K : PySem.W.Frag) (B : Adr) : Sp := spA K (fun n : Nat => [D.int (n : Nat)]) (fun n => True) (fun n => .ok (.int (CodeM.figs n : Nat)))
theorem ok_l_figures (T : Txt K mg B) : Ok P w K mg base CX0 1 "_law_figures" ["_law_n"] (sp_l_figures K B) := by
  refine T.d_l_figures.ok sc_l_figures (spA_len fun _ => rfl) (fun f cdv A outer s H vs Q E hr h => ⟨_, (pss_cons (ps_set (i := 1) sc_l_figures.nd rfl (Or.inl rfl) pe_int)
    (pss_cons (ps_while PassesOwn.never (pt_cmpR op_gtG (pv 0) pe_int (nomark _)) (pss_cons (ps_set (i := 1) sc_l_figures.nd rfl (Or.inl rfl) (pe_op (k_add K rfl) (pv 1) pe_int))
    (pss_one (ps_set (i := 0) sc_l_figures.nd rfl (Or.inl rfl) (pe_op op_divG (pv 0) pe_int)))))
    (pss_one (ps_ret (pv 1))))), go_fn h fun a W ha => ?_⟩)
  walk_at "st0"
  refine st_seq (st_asg (d := .int ((0 : Nat) : Int)) ee_int (by walk_at "lt") ?_)
  walk_at "fr"
  refine st_seq (st_while (α := Nat × Nat) (fun p => [.v (.int (p.1 : Nat)), .v (.int (p.2 : Nat))]) (fun p => p.2 + CodeM.figs p.1 = CodeM.figs a) (fun p => p.1) ⟨(a, 0), Fle.refl _, Nat.zero_add _⟩ ?_)
  rintro ⟨x, y⟩ hx
  dsimp only at hx ⊢
  refine ⟨_, et_test (ee_op (ee_var rfl) ee_int (rb_gtN (b := 0))), fun hb => ?_, fun hb => ?_⟩
  · have hp : 0 < x := by simpa using hb
    refine st_seq (st_asg (ee_op (ee_var rfl) ee_int rb_addN1) (by walk_at "lt") ?_)
    walk_at "fr"
    refine st_asg (ee_op (ee_var rfl) ee_int rb_div2N) (by walk_at "lt") ?_
    walk_at "fr"
    refine ⟨(x / 2, y + 1), Fle.refl _, ?_, by dsimp only; omega⟩
    have : CodeM.figs x = CodeM.figs (x / 2) + 1 := by rw [CodeM.figs, if_neg (by omega)]
    dsimp only; omega
  · have hp : x = 0 := by simp at hb; omega
    subst hp
    refine st_ret (ee_var rfl) ?_
    have : CodeM.figs 0 = 0 := by rw [CodeM.figs, if_pos rfl]
    have : y = CodeM.figs a := by omega
    rw [this]

--@@part
abbrev sp_law (K : PySem.W.Frag) (B : Adr) : Sp := fun vs H Q _ => ∃ (a : Addr) (ns : List Int), vs = [.ref a] ∧ SqL K H a (ns.map V.int) ∧ ns.length ≤ 63 ∧ ∀ H', Q (.bl true) H'
/-- a law: its draws are laid, then its rows -/
theorem go_law {K : PySem.W.Frag} {B : Adr} {N : List Str} {m : Nat} {E : XK} {e1 : XK} {t : TS} {vs : List V} {H : Hp} {Q : VK} (hN : N.length = m + 2) (h : sp_law K B vs H Q E)
    (k : ∀ (l : Option (Addr × Addr)) (W : Addr → Prop), St ⟨K, l, E, W, fun _ => False⟩ t { nx := fun _ => False, rt := fun d => d = .bl true } (.no :: .drw :: List.replicate m .no)) :
    (tSeq (tAsg (tCall (sp_l_begin K B) [] e1 (tCons (tVar 0) tNil)) (gName 1)) t) { nx := fun _ H' => Q .non H', rt := Q } (L2.start N vs) H := by
  obtain ⟨a, ns, rfl, hs, hl, q⟩ := h
  have e0 : L2.start N [V.ref a] = some (.ref a) :: none :: List.replicate m none := by
    unfold L2.start
    have : N.length - [V.ref a].length = m + 1 := by rw [hN]; rfl
    rw [this, List.replicate_succ]; rfl
  rw [e0]
  refine ⟨.ref a, rfl, a, ns, rfl, hs, hl, fun b sc H1 hb hsc e d => ?_⟩
  obtain ⟨ns', _, _, _, hb1, hsc1, _⟩ := id d
  refine k (some (b, sc)) (fun x => H1 x ≠ none) H H1 _ ⟨e, ⟨by simp, fun i s hi => ?_, fun i j b' xs ys _ e1 _ _ => ?_⟩, fun x y z => ?_, fun x z => z⟩ _ ⟨fun _ _ _ _ _ _ z => z.elim, fun G' H' v d' x s r z => ?_, fun _ _ _ _ _ _ z => z.elim, fun _ _ _ _ _ _ z => z.elim, fun _ _ _ _ _ _ z => z.elim, fun _ _ _ _ _ _ _ _ _ z => z.elim, fun _ _ _ _ _ _ _ z => z.elim⟩
  · match i, hi with
    | 0, hi => cases hi; trivial
    | 1, hi => cases hi; exact ⟨b, sc, rfl, rfl, hb, d⟩
    | i + 2, hi =>
      simp only [List.getElem?_cons_succ, List.getElem?_replicate] at hi
      split at hi
      · cases hi; trivial
      · cases hi
  · match i, e1 with
    | i + 2, e1 =>
      simp only [List.getElem?_cons_succ, List.getElem?_replicate] at e1
      split at e1
      · cases e1
      · cases e1
  · cases z
    exact ⟨by rw [hb1]; simp, hb, by rw [hsc1]; simp⟩
  · subst z
    cases r
    exact q H'

theorem row_le {c : CodeM} (n : Nat) : c.rowOf n ≤ n := Nat.le_trans (CodeM.le_first _) (CodeM.rowOf_ok n).1

/-! ### the law on known codes -/
theorem et_no {c : Ctx} {ds : Fm} {t : TT} {b : Bool} (h : Et c t ds b) (e : b = false) : Et c t ds false := e ▸ h
theorem ee_mk {c : Ctx} {ds : Fm} {ta : TA} {B : Adr} {E : XK} (a : CodeM) (wf : Wf a) (h : Ea c ta ds [rowsD a, tailD a]) : Ee c (tMake B.Code (sp_Code_init c.K B) [] E ta) ds (codeD B.Code a) :=
  ee_make (a := (rowsD a, tailD a)) h rfl ⟨okD_rows wf, okD_tail wf⟩ (mkC_ok wf)
theorem fig_sh : shD 2 (.tup [.str "figure", .tup [.int 2, .int 1]]) = true := by decide +kernel
theorem ok_law (T : Txt K mg B) {fL : Addr} {fdL : FuncData} (F : Fun K "law" "law" s_law fL fdL) : FnOk P w K mg base CX0 9 fL fdL ["_law_script"] (sp_law K B) := by
  refine F.ok (k := 8) sc_law ?len (fun cdv A outer s H vs Q E hr h => ⟨_, (pss_cons (ps_set (i := 1) sc_law.nd rfl (Or.inl rfl) (pe_callH (ok_l_begin T) (hr.mono (by first | decide | omega)) rfl pass0 (pa_cons (pv 0) pa_nil)))
    (pss_cons (ps_set (i := 2) sc_law.nd rfl (Or.inl rfl) (pe_callH (ok_l_draw T) (hr.mono (by first | decide | omega)) rfl pass0 (pa_cons (pv 1) (pa_cons pe_int pa_nil))))
    (pss_cons (ps_par (i := 3) (j := 4) (by rfl) sc_law.nd rfl rfl (by decide) rfl rfl (pa_cons (pe_makeH (ok_Code_init T) T.g_Code (hr.mono (by first | decide | omega)) rfl passL (pa_cons (pe_tup pa_nil) (pa_cons (pe_tup (pa_cons pe_str (pa_cons pe_str (pa_cons (pv 2) (pa_cons pe_int pa_nil))))) pa_nil))) (pa_cons (pe_makeH (ok_Code_init T) T.g_Code (hr.mono (by first | decide | omega)) rfl passL (pa_cons (pe_tup pa_nil) (pa_cons (pe_tup (pa_cons pe_str (pa_cons pe_str (pa_cons pe_int (pa_cons pe_int pa_nil))))) pa_nil))) pa_nil)) (by rfl))
    (pss_cons (ps_set (i := 5) sc_law.nd rfl (Or.inl rfl) (pe_callH (ok_l_draw T) (hr.mono (by first | decide | omega)) rfl pass0 (pa_cons (pv 1) (pa_cons pe_int pa_nil))))
    (pss_cons (ps_set (i := 6) sc_law.nd rfl (Or.inl rfl) (pe_ix (k_ix K rfl) pe_str (pe_callTy call_intG (by rfl) T.n_int (by decide +kernel) (pa_cons (pe_and (pe_cmpR (k_eq K rfl hr.units) (pe_op op_modG (pv 5) pe_int) pe_int (nomark _)) (pe_one (pe_cmpR op_gtG (pv 5) pe_int (nomark _)))) pa_nil)) (fun _ _ => rfl)))
    (pss_cons (ps_if (PW.pt (pw_or (pt_cmpR (k_ne K rfl hr.units) (pe_callB (k_len K rfl) (by rfl) T.n_len (by decide +kernel) (pa_cons (pe_callMH (pv 4) T.cl_Code (ok_Code_bits T) (hr.mono (by first | decide | omega)) pass0 (pa_cons (pv 5) pa_nil)) pa_nil)) (pe_op op_subG (pe_op (k_mul K rfl) pe_int (pe_callH (ok_l_figures T) (hr.mono (by first | decide | omega)) rfl pass0 (pa_cons (pe_op (k_add K rfl) (pv 5) pe_int) pa_nil))) pe_int) (nomark _)) (pw_or1 (pt_cmpR (k_ne K rfl hr.units) (pe_slice (k_sl K rfl) (pe_callMH (pv 4) T.cl_Code (ok_Code_bits T) (hr.mono (by first | decide | omega)) pass0 (pa_cons (pv 5) pa_nil)) (po_some (pe_un un_neg pe_int)) po_none) (pv 6) (nomark _))))) (pss_one (ps_ret pe_bl)) pss_nil)
    (pss_cons (ps_set (i := 7) sc_law.nd rfl (Or.inl rfl) pe_int)
    (pss_cons (ps_for PassesOwn.never rfl (pi_range1 rfl T.n_range (pa_cons (pv 2) pa_nil)) (pg_name (i := 8) sc_law.nd rfl (Or.inl rfl)) (pss_one (ps_set (i := 7) sc_law.nd rfl (Or.inl rfl) (pe_op (k_mul K rfl) (pv 7) pe_int))))
    (pss_cons (ps_if (PW.pt (pw_or (pt_cmpR (k_ne K rfl hr.units) (pe_callMH (pv 3) T.cl_Code (ok_Code_size T) (hr.mono (by first | decide | omega)) pass0 (pa_cons (pv 5) pa_nil)) (pe_op (k_add K rfl) (pe_op (k_add K rfl) (pe_op op_divG (pv 5) (pv 7)) pe_int) (pv 2)) (nomark _)) (pw_or (pt_cmpR (k_ne K rfl hr.units) (pe_callH (ok_share T) (hr.mono (by first | decide | omega)) rfl passL (pa_cons (pv 3) pa_nil)) (pe_tup (pa_cons pe_int (pa_cons pe_int pa_nil))) (nomark _)) (pw_or1 (pt_cmpR (k_ne K rfl hr.units) (pe_callH (ok_share T) (hr.mono (by first | decide | omega)) rfl passL (pa_cons (pv 4) pa_nil)) (pe_tup (pa_cons pe_int (pa_cons pe_int pa_nil))) (nomark _)))))) (pss_one (ps_ret pe_bl)) pss_nil)
    (pss_cons (ps_if (PW.pt (pw_or (pt_cmpR op_nisG (pe_callH (ok_order T) (hr.mono (by first | decide | omega)) rfl passL (pa_cons (pv 3) pa_nil)) pe_non (nomark _)) (pw_or (pt_cmpR op_nisG (pe_callH (ok_order T) (hr.mono (by first | decide | omega)) rfl passL (pa_cons (pv 4) pa_nil)) pe_non (nomark _)) (pw_or1 (pt_cmpR (k_ne K rfl hr.units) (pe_callH (ok_dead T) (hr.mono (by first | decide | omega)) rfl passL (pa_cons (pv 4) (pa_cons pe_int pa_nil))) (pe_lst pa_nil) (nomark _)))))) (pss_one (ps_ret pe_bl)) pss_nil)
    (pss_cons (ps_if (PW.pt (pw_or (pt_cmpR (k_ne K rfl hr.units) (pe_callH (ok_order T) (hr.mono (by first | decide | omega)) rfl passL (pa_cons (pe_makeH (ok_Code_init T) T.g_Code (hr.mono (by first | decide | omega)) rfl passL (pa_cons (pe_tup pa_nil) (pa_cons (pe_tup (pa_cons pe_str (pa_cons pe_str (pa_cons pe_int (pa_cons pe_int pa_nil))))) pa_nil))) pa_nil)) pe_int (nomark _)) (pw_or1 (pt_cmpR (k_ne K rfl hr.units) (pe_callH (ok_order T) (hr.mono (by first | decide | omega)) rfl passL (pa_cons (pe_makeH (ok_Code_init T) T.g_Code (hr.mono (by first | decide | omega)) rfl passL (pa_cons (pe_tup pa_nil) (pa_cons (pe_tup (pa_cons pe_str (pa_cons pe_str (pa_cons (pv 2) (pa_cons pe_int pa_nil))))) pa_nil))) pa_nil)) (pe_op op_subG (pv 7) pe_int) (nomark _))))) (pss_one (ps_ret pe_bl)) pss_nil)
    (pss_cons (ps_if (PW.pt (pw_or (pt_cmpR (k_ne K rfl hr.units) (pe_callH (ok_growth T) (hr.mono (by first | decide | omega)) rfl passL (pa_cons (pv 4) pa_nil)) (pe_tup (pa_cons pe_str (pa_cons (pe_tup (pa_cons pe_int (pa_cons pe_int pa_nil))) pa_nil))) (nomark _)) (pw_or (pt_cmpR op_nisG (pe_callH (ok_how_many T) (hr.mono (by first | decide | omega)) rfl passL (pa_cons (pv 4) (pa_cons pe_str pa_nil))) pe_non (nomark _)) (pw_or1 (pt_cmpR (k_ne K rfl hr.units) (pe_callH (ok_how_many T) (hr.mono (by first | decide | omega)) rfl passL (pa_cons (pv 4) (pa_cons pe_str pa_nil))) pe_int (nomark _)))))) (pss_one (ps_ret pe_bl)) pss_nil)
    (pss_cons (ps_if (PW.pt (pw_or (pt_cmpR op_isG (pe_callH (ok_longer T) (hr.mono (by first | decide | omega)) rfl passL (pa_cons (pv 3) (pa_cons (pv 4) pa_nil))) pe_non (nomark _)) (pw_or (pt_cmpR op_nisG (pe_callH (ok_gap T) (hr.mono (by first | decide | omega)) rfl passL (pa_cons (pv 3) (pa_cons (pv 4) pa_nil))) pe_non (nomark _)) (pw_or1 (pt_cmpR op_nisG (pe_callH (ok_longer T) (hr.mono (by first | decide | omega)) rfl passL (pa_cons (pv 4) (pa_cons (pv 4) pa_nil))) pe_non (nomark _)))))) (pss_one (ps_ret pe_bl)) pss_nil)
    (pss_cons (ps_if (PW.pt (pw_or (pt_cmpR (k_ne K rfl hr.units) (pe_callH (ok_gap T) (hr.mono (by first | decide | omega)) rfl passL (pa_cons (pv 4) (pa_cons (pv 4) pa_nil))) pe_int (nomark _)) (pw_or1 (pt_cmpR op_isG (pe_callH (ok_longer T) (hr.mono (by first | decide | omega)) rfl passL (pa_cons (pv 4) (pa_cons (pv 3) pa_nil))) pe_non (nomark _))))) (pss_one (ps_ret pe_bl)) pss_nil)
    (pss_cons (ps_set (i := 9) sc_law.nd rfl (Or.inl rfl) (pe_makeH (ok_Code_init T) T.g_Code (hr.mono (by first | decide | omega)) rfl passL (pa_cons (pe_tup (pa_cons (pe_tup (pa_cons pe_str (pa_cons (pv 2) pa_nil))) pa_nil)) (pa_cons (pe_tup (pa_cons pe_str (pa_cons pe_str (pa_cons pe_int (pa_cons pe_int pa_nil))))) pa_nil))))
    (pss_cons (ps_if (PW.pt (pw_or (pt_cmpR op_nisG (pe_callH (ok_clash T) (hr.mono (by first | decide | omega)) rfl pass0 (pa_cons (pv 9) pa_nil)) pe_non (nomark _)) (pw_or (pt_cmpR (k_ne K rfl hr.units) (pe_callH (ok_starting T) (hr.mono (by first | decide | omega)) rfl passL (pa_cons (pv 9) (pa_cons pe_str pa_nil))) pe_int (nomark _)) (pw_or1 (pt_cmpR (k_ne K rfl hr.units) (pe_callH (ok_share T) (hr.mono (by first | decide | omega)) rfl passL (pa_cons (pv 9) pa_nil)) (pe_tup (pa_cons pe_int (pa_cons pe_int pa_nil))) (nomark _)))))) (pss_one (ps_ret pe_bl)) pss_nil)
    (pss_cons (ps_if (pt_cmpR (k_ne K rfl hr.units) (pe_callH (ok_starting T) (hr.mono (by first | decide | omega)) rfl passL (pa_cons (pv 9) (pa_cons pe_str pa_nil))) (pv 7) (nomark _)) (pss_one (ps_ret pe_bl)) pss_nil)
    (pss_cons (ps_set (i := 10) sc_law.nd rfl (Or.inl rfl) (pe_makeH (ok_Code_init T) T.g_Code (hr.mono (by first | decide | omega)) rfl passL (pa_cons (pe_tup (pa_cons (pe_tup (pa_cons pe_str (pa_cons (pv 2) pa_nil))) pa_nil)) (pa_cons (pe_tup (pa_cons pe_str (pa_cons pe_str (pa_cons pe_int (pa_cons pe_int pa_nil))))) pa_nil))))
    (pss_cons (ps_if (PW.pt (pw_or (k_tru K rfl (pe_callH (ok_is_free T) (hr.mono (by first | decide | omega)) rfl pass0 (pa_cons (pv 10) pa_nil))) (pw_or1 (pt_cmpR (k_ne K rfl hr.units) (pe_callH (ok_clash T) (hr.mono (by first | decide | omega)) rfl pass0 (pa_cons (pv 10) pa_nil)) (pe_tup (pa_cons (pv 7) (pa_cons pe_int pa_nil))) (nomark _))))) (pss_one (ps_ret pe_bl)) pss_nil)
    (pss_cons (ps_set (i := 11) sc_law.nd rfl (Or.inl rfl) (pe_makeH (ok_Code_init T) T.g_Code (hr.mono (by first | decide | omega)) rfl passL (pa_cons (pe_tup (pa_cons (pe_tup (pa_cons pe_str (pa_cons (pv 2) pa_nil))) pa_nil)) (pa_cons (pe_tup (pa_cons pe_str (pa_cons pe_str (pa_cons pe_int (pa_cons pe_int pa_nil))))) pa_nil))))
    (pss_one (ps_ret (pe_and (pe_cmpR (k_eq K rfl hr.units) (pe_callH (ok_dead T) (hr.mono (by first | decide | omega)) rfl passL (pa_cons (pv 11) (pa_cons pe_int pa_nil))) (pe_lst (pa_cons pe_str pa_nil)) (nomark _)) (pe_and (pe_cmpR (k_eq K rfl hr.units) (pe_callH (ok_share T) (hr.mono (by first | decide | omega)) rfl passL (pa_cons (pv 11) pa_nil)) (pe_tup (pa_cons pe_int (pa_cons pe_int pa_nil))) (nomark _)) (pe_one (pe_cmpR (k_eq K rfl hr.units) (pe_callH (ok_how_many T) (hr.mono (by first | decide | omega)) rfl passL (pa_cons (pv 11) (pa_cons pe_str pa_nil))) (pv 7) (nomark _))))))))))))))))))))))))))), ?_⟩)
  case len => rintro vs H Q E ⟨a, ns, rfl, _⟩; rfl
  refine go_law (m := 10) rfl h (fun l W => ?_)
  walk_at "st0"
  refine st_seq (sn_asg (en_imp (en_draw (a := 9) rfl (by walk_at "ea") rfl (by decide)) (fun d hd => draw_nat (b := 9) (by decide) hd)) (by walk_at "lt") (fun d hd => ?_))
  obtain ⟨k, rfl, hk⟩ := hd
  walk_at "fr"
  have pk := CodeM.pow_ge_one k
  have pk8 : 2 ^ k ≤ 2 ^ 8 := pow_bd (by omega)
  have big : (2 : Nat) ^ 8 < 2 ^ 8000 := Nat.pow_lt_pow_right (by decide) (by decide)
  refine st_seq (st_par (ea_cons (ee_mk (onesC k) (ones_wf hk) (ea_cons (ee_is (ee_tup ea_nil (Nat.zero_le _)) rfl) (ea_cons (ee_is (ee_tup (by walk_at "ea") (by simp)) (by simp only [tailD, onesC, lit_0, lit_1]; rfl)) ea_nil))) (ea_cons (ee_mk gamC gam_wf (ea_cons (ee_is (ee_tup ea_nil (Nat.zero_le _)) rfl) (ea_cons (ee_is (ee_tup (by walk_at "ea") (by simp)) (by simp only [tailD, gamC, lit_0, lit_1]; rfl)) ea_nil))) ea_nil)) (by walk_at "lt") (by walk_at "lt") ?_)
  walk_at "fr"
  refine st_seq (sn_asg (en_imp (en_draw (a := 5000) rfl (by walk_at "ea") rfl (by decide)) (fun d hd => draw_nat (b := 5000) (by decide) hd)) (by walk_at "lt") (fun d hd => ?_))
  obtain ⟨n, rfl, hn⟩ := hd
  walk_at "fr"
  have sgn : atI ("01" : Str).cps.toList (if lastB n = true then 1 else 0) = some (sg (lastB n)) := by cases lastB n <;> rfl
  refine st_seq (st_asg (d := .str (bs [lastB n])) (ee_op ee_str (ee_cb (ea_cons (ee_andV (ee_op (ee_op (ee_var rfl) ee_int rb_mod2N) ee_int rb_eqN0) (fun _ => ee_op (ee_var rfl) ee_int (rb_gtN (b := 0)))) ea_nil) rc_intB) (rb_ixS (by decide) sgn)) (by walk_at "lt") ?_)
  walk_at "fr"
  have rn := row_le (c := gamC) n
  have nk1 : NOk gamC n := nok_row (by omega)
  have nk2 : NOk (onesC k) n := nok_row (by have := row_le (c := onesC k) n; omega)
  have gs : (gamC.bits n).length = 2 * gamC.rowOf n + 1 := by rw [CodeM.bits_len, gam_size]
  have gf := gam_figs n
  have gl := gam_last n
  refine st_seq (st_if (b := false) (et_or2 (et_no (et_test (ee_op (ee_cb (ea_cons (ee_meth (a := (gamC, n)) (ee_var rfl) (by decide) (by walk_at "ea") rfl ⟨gam_wf, nk1⟩ rfl) ea_nil) (rc_lenB (l := gamC.bits n) (by omega))) (ee_op (ee_op ee_int (ee_call (a := n + 1) (ea_cons (ee_op (ee_var rfl) ee_int rb_addN1) ea_nil) rfl trivial rfl) rb_mul2N) ee_int (rb_subN1 (by omega))) rb_neN)) (by rw [gs, gf]; simp; omega)) (et_no (et_test (ee_op (ee_sl (ee_meth (a := (gamC, n)) (ee_var rfl) (by decide) (by walk_at "ea") rfl ⟨gam_wf, nk1⟩ rfl) (eo_some (ee_un ee_int ru_neg)) eo_none (rs_last1 (l := gamC.bits n) (by omega))) (ee_var rfl) rb_neB)) (by rw [gl]; simp))) (fun z => nomatch z) (fun _ => st_next ?_))
  refine st_seq (st_asg (d := .int ((2 ^ 0 : Nat) : Int)) ee_int (by walk_at "lt") ?_)
  walk_at "fr"
  refine st_seq (st_for (α := Unit) (ei_rng1 (j := (k : Nat)) (by walk_at "ea") (by omega) (by omega)) (fun i _ => [.no, .drw, .v (.int (k : Nat)), .v (codeD B.Code (onesC k)), .v (codeD B.Code gamC), .v (.int (n : Nat)), .v (.str (bs [lastB n])), .v (.int ((2 ^ i : Nat) : Int)), .no, .no, .no, .no]) (fun _ _ => True) ⟨(), Fle.refl _, trivial⟩ ?_ ?_)
  · rintro i d - hi -
    obtain ⟨rfl, hlt⟩ := upto_get hi
    refine ⟨_, _, eg_name (by walk_at "lt"), ?_⟩
    walk_at "fr"
    refine st_asg (ee_op (ee_var rfl) ee_int (rb_mulNR (b := 2) (by decide))) (by walk_at "lt") ?_
    walk_at "fr"
    exact ⟨(), .keep rfl (.keep rfl (.keep rfl (.keep rfl (.keep rfl (.keep rfl (.keep rfl (.keep (by rw [Nat.pow_succ]) (.drop (Fle.refl _))))))))), trivial⟩
  rintro - -
  rw [upto_len, Int.toNat_natCast]
  have fo := ones_free hk
  have wo := ones_wf hk
  have sz := ones_size k n
  have t11 : shD 1 (.tup [.int 1, .int 1]) = true := rfl
  -- size, share
  refine st_seq (st_if (b := false) (et_or2 (et_no (et_test (ee_op (ee_meth (a := (onesC k, n)) (ee_var rfl) (by decide) (by walk_at "ea") rfl ⟨wo, nk2⟩ rfl) (ee_op (ee_op (ee_op (ee_var rfl) (ee_var rfl) (rb_divN (by omega) (Nat.lt_of_le_of_lt pk8 big))) ee_int rb_addN1) (ee_var rfl) rb_addN) rb_neN)) (by rw [sz]; simp)) (et_or2 (et_no (et_test (ee_op (ee_is (ee_call (a := onesC k) (by walk_at "ea") rfl wo (if_pos fo)) (sh_ones hk)) (ee_tup (by walk_at "ea") (by simp)) (rb_neSame 1 rfl (by decide) rfl))) rfl) (et_test (ee_op (ee_is (ee_call (a := gamC) (by walk_at "ea") rfl gam_wf (if_pos gam_free)) sh_gam) (ee_tup (by walk_at "ea") (by simp)) (rb_neSame 1 rfl (by decide) rfl))))) (fun z => nomatch z) (fun _ => st_next ?_))
  -- order, dead
  refine st_seq (st_if (b := false) (et_or2 (et_no (et_test (ee_op (ee_is (ee_call (a := onesC k) (by walk_at "ea") rfl wo (if_pos fo)) (ones_ord k)) ee_non rb_nis)) rfl) (et_or2 (et_no (et_test (ee_op (ee_is (ee_call (a := gamC) (by walk_at "ea") rfl gam_wf (if_pos gam_free)) gam_ord) ee_non rb_nis)) rfl) (et_test (ee_op (ee_is (ee_call2 (x := gamC) (y := 5) (ea_cons (ee_var rfl) (ea_cons ee_int ea_nil)) rfl ⟨gam_wf, by decide⟩ (if_pos gam_free)) (by rw [gam_deadL]; rfl)) (ee_lst ea_nil (Nat.zero_le _)) (rb_neSame 1 rfl (by decide) rfl))))) (fun z => nomatch z) (fun _ => st_next ?_))
  have wz0 := zer_wf (k := 0) (by decide)
  have wz := zer_wf hk
  refine st_seq (st_if (b := false) (et_or2 (et_no (et_test (ee_op (ee_is (ee_call (a := zerC 0) (ea_cons (ee_mk (zerC 0) wz0 (ea_cons (ee_is (ee_tup ea_nil (Nat.zero_le _)) rfl) (ea_cons (ee_is (ee_tup (by walk_at "ea") (by simp)) (by simp only [tailD, zerC, lit_0, lit_1]; rfl)) ea_nil))) ea_nil) rfl wz0 (if_pos (zer_free (by decide)))) (zer_ord 0)) ee_int (rb_neN (b := 0)))) rfl) (et_no (et_test (ee_op (ee_is (ee_call (a := zerC k) (ea_cons (ee_mk (zerC k) wz (ea_cons (ee_is (ee_tup ea_nil (Nat.zero_le _)) rfl) (ea_cons (ee_is (ee_tup (by walk_at "ea") (by simp)) (by simp only [tailD, zerC, lit_0, lit_1]; rfl)) ea_nil))) ea_nil) rfl wz (if_pos (zer_free hk))) (zer_ord k)) (ee_op (ee_var rfl) ee_int (rb_subN1 pk)) rb_neN)) (by simp))) (fun z => nomatch z) (fun _ => st_next ?_))
  -- growth, how_many
  have hm : ∀ {l : List Bool} {x : D}, optD (gamC.hmN l) = x → (if freeB gamC = true then Res.ok (optD (gamC.hmN l)) else .err (.ref B.NotFree) none) = Res.ok x := fun e => by rw [if_pos gam_free, e]
  refine st_seq (st_if (b := false) (et_or2 (et_no (et_test (ee_op (ee_is (ee_call (a := gamC) (by walk_at "ea") rfl gam_wf (if_pos gam_free)) gr_gam) (ee_tup (by walk_at "ea") (by simp)) (rb_neSame 2 fig_sh (by decide) rfl))) rfl) (et_or2 (et_no (et_test (ee_op (ee_call2 (x := gamC) (y := [true, true]) (ea_cons (ee_var rfl) (ea_cons (ee_is ee_str (by rw [lit_11])) ea_nil)) rfl ⟨gam_wf, by decide⟩ (hm (x := .non) (by rw [gam_hm11]; rfl))) ee_non rb_nis)) rfl) (et_no (et_test (ee_op (ee_call2 (x := gamC) (y := [true, false]) (ea_cons (ee_var rfl) (ea_cons (ee_is ee_str (by rw [lit_10])) ea_nil)) rfl ⟨gam_wf, by decide⟩ (hm (x := .int 2) (by rw [gam_hm10]; rfl))) ee_int rb_neI)) rfl))) (fun z => nomatch z) (fun _ => st_next ?_))
  -- longer, gap
  have lnon : ∀ {o : Option Nat}, o ≠ none → isNonD (optD o) = false := fun {o} h => by
    cases o with
    | none => exact absurd rfl h
    | some m => rfl
  refine st_seq (st_if (b := false) (et_or2 (et_no (et_test (ee_op (ee_call2 (x := onesC k) (y := gamC) (by walk_at "ea") rfl (lg_og hk) (lg_eq fo gam_free)) ee_non rb_is)) (lnon (lg_ogSome hk))) (et_or2 (et_no (et_test (ee_op (ee_is (ee_call2 (x := onesC k) (y := gamC) (by walk_at "ea") rfl (lg_og hk) (lg_eq fo gam_free)) (gap_og k)) ee_non rb_nis)) rfl) (et_no (et_test (ee_op (ee_is (ee_call2 (x := gamC) (y := gamC) (by walk_at "ea") rfl lg_gg (lg_eq gam_free gam_free)) (by rw [lg_ggNone]; rfl : _ = D.non)) ee_non rb_nis)) rfl))) (fun z => nomatch z) (fun _ => st_next ?_))
  refine st_seq (st_if (b := false) (et_or2 (et_no (et_test (ee_op (ee_is (ee_call2 (x := gamC) (y := gamC) (by walk_at "ea") rfl lg_gg (lg_eq gam_free gam_free)) gap_gg) ee_int rb_neI)) rfl) (et_no (et_test (ee_op (ee_call2 (x := gamC) (y := onesC k) (by walk_at "ea") rfl (lg_go hk) (lg_eq gam_free fo)) ee_non rb_is)) (lnon (lg_goSome k)))) (fun z => nomatch z) (fun _ => st_next ?_))
  -- half
  have wh := half_wf hk
  have fh := half_free hk
  refine st_seq (st_asg (d := codeD B.Code (halfC k)) (ee_mk (halfC k) wh (ea_cons (ee_is (ee_tup (ea_cons (ee_tup (by walk_at "ea") (by simp)) ea_nil) (by simp)) (by simp only [rowsD, rowD, halfC, List.map_cons, List.map_nil, lit_0])) (ea_cons (ee_is (ee_tup (by walk_at "ea") (by simp)) (by simp only [tailD, halfC, lit_1, lit_10]; rfl)) ea_nil))) (by walk_at "lt") ?_)
  walk_at "fr"
  have hcl : clashD (halfC k) = .non := by unfold clashD; rw [CodeM.cn_free (freeB_free fh)]
  have hs : ∀ {l : List Bool} {x : D}, optD ((halfC k).stN l) = x → (if freeB (halfC k) = true then Res.ok (optD ((halfC k).stN l)) else .err (.ref B.NotFree) none) = Res.ok x := fun e => by rw [if_pos fh, e]
  refine st_seq (st_if (b := false) (et_or2 (et_no (et_test (ee_op (ee_is (ee_call (a := halfC k) (by walk_at "ea") rfl wh rfl) hcl) ee_non rb_nis)) rfl) (et_or2 (et_no (et_test (ee_op (ee_call2 (x := halfC k) (y := [false]) (ea_cons (ee_var rfl) (ea_cons (ee_is ee_str (by rw [lit_0])) ea_nil)) rfl ⟨wh, by decide⟩ (hs (x := .int ((0 : Nat) : Int)) (by rw [half_st0 hk]; rfl))) ee_int (rb_neN (b := 0)))) rfl) (et_no (et_test (ee_op (ee_is (ee_call (a := halfC k) (by walk_at "ea") rfl wh (if_pos fh)) (sh_half hk)) (ee_tup (by walk_at "ea") (by simp)) (rb_neSame 1 rfl (by decide) rfl))) rfl))) (fun z => nomatch z) (fun _ => st_next ?_))
  refine st_seq (st_if (b := false) (et_no (et_test (ee_op (ee_call2 (x := halfC k) (y := [true, false]) (ea_cons (ee_var rfl) (ea_cons (ee_is ee_str (by rw [lit_10])) ea_nil)) rfl ⟨wh, by decide⟩ (hs (x := .int ((2 ^ k : Nat) : Int)) (by rw [half_st10 hk]; rfl))) (ee_var rfl) rb_neN)) (by simp)) (fun z => nomatch z) (fun _ => st_next ?_))
  -- spare
  have ws := spar_wf hk
  refine st_seq (st_asg (d := codeD B.Code (sparC k)) (ee_mk (sparC k) ws (ea_cons (ee_is (ee_tup (ea_cons (ee_tup (by walk_at "ea") (by simp)) ea_nil) (by simp)) (by simp only [rowsD, rowD, sparC, List.map_cons, List.map_nil, lit_00])) (ea_cons (ee_is (ee_tup (by walk_at "ea") (by simp)) (by simp only [tailD, sparC, lit_1, lit_0]; rfl)) ea_nil))) (by walk_at "lt") ?_)
  walk_at "fr"
  refine st_seq (st_if (b := false) (et_or2 (et_no (et_tb (ee_call (a := sparC k) (by walk_at "ea") rfl ws rfl)) (spar_not hk)) (et_no (et_test (ee_op (ee_is (ee_call (a := sparC k) (by walk_at "ea") rfl ws rfl) (spar_clash hk)) (ee_tup (ea_cons (ee_var rfl) (ea_cons (ee_int (i := ((0 : Nat) : Int))) ea_nil)) (by simp)) (rb_neSame 1 rfl (by decide) rfl))) rfl)) (fun z => nomatch z) (fun _ => st_next ?_))
  -- gone
  have wg := gone_wf hk
  have fg := gone_free hk
  refine st_seq (st_asg (d := codeD B.Code (goneC k)) (ee_mk (goneC k) wg (ea_cons (ee_is (ee_tup (ea_cons (ee_tup (by walk_at "ea") (by simp)) ea_nil) (by simp)) (by simp only [rowsD, rowD, goneC, List.map_cons, List.map_nil, lit_00])) (ea_cons (ee_is (ee_tup (by walk_at "ea") (by simp)) (by simp only [tailD, goneC, lit_1, lit_10]; rfl)) ea_nil))) (by walk_at "lt") ?_)
  walk_at "fr"
  have gd : shD 1 (.lst [.str (bs [false, true])]) = true := by decide +kernel
  refine st_ret (d := .bl true) (ee_and2 (ee_op (ee_is (ee_call2 (x := goneC k) (y := 4) (ea_cons (ee_var rfl) (ea_cons ee_int ea_nil)) rfl ⟨wg, by decide⟩ (if_pos fg)) (by rw [gone_deadL]; rfl : _ = D.lst [.str (bs [false, true])])) (ee_is (ee_lst (by walk_at "ea") (by simp)) (by rw [lit_01])) (rb_eqSame 1 gd (by decide) rfl)) (ee_and2 (ee_op (ee_is (ee_call (a := goneC k) (by walk_at "ea") rfl wg (if_pos fg)) (sh_gone hk)) (ee_tup (by walk_at "ea") (by simp)) (rb_eqSame 1 rfl (by decide) rfl)) (ee_is (ee_op (ee_call2 (x := goneC k) (y := [false]) (ea_cons (ee_var rfl) (ea_cons (ee_is ee_str (by rw [lit_0])) ea_nil)) rfl ⟨wg, by decide⟩ (show (if freeB (goneC k) = true then Res.ok (optD ((goneC k).hmN [false])) else .err (.ref B.NotFree) none) = Res.ok (.int ((2 ^ k : Nat) : Int)) by rw [if_pos fg, gone_hm hk]; rfl)) (ee_var rfl) rb_eqN) (by simp)))) rfl

--@@part
/-! ### what the top has written -/
theorem all_mk {l : PySem.W.OpenLaw} {w : World} {K : PySem.W.Frag} {h : Heap} {mg : Str → Option Value} {fa : Addr} {xCode xBadCode xNotFree xBITS : Addr} (X : K.In h) (G : h.Ns mainGlobals mg) (hfa : mg "law" = some (.ref fa))
    {ddBITS : Option Addr} {nBITS : Nat} {slBITS : Array (Option Value)} {tBITS0 tBITS1 : Tok}
    {tMOST_ROWS : Tok}
    {fis_whole : Addr} {odis_whole anis_whole : Option Addr} {slis_whole : Array (Option Value)} {ocis_whole kVis_whole dcis_whole pmis_whole cdis_whole ctis_whole : Value}
    {fare_bits : Addr} {odare_bits anare_bits : Option Addr} {slare_bits : Array (Option Value)} {ocare_bits kVare_bits dcare_bits pmare_bits cdare_bits ctare_bits : Value}
    {fis_row : Addr} {odis_row anis_row : Option Addr} {slis_row : Array (Option Value)} {ocis_row kVis_row dcis_row pmis_row cdis_row ctis_row : Value}
    {fis_tail : Addr} {odis_tail anis_tail : Option Addr} {slis_tail : Array (Option Value)} {ocis_tail kVis_tail dcis_tail pmis_tail cdis_tail ctis_tail : Value}
    {fpower : Addr} {odpower anpower : Option Addr} {slpower : Array (Option Value)} {ocpower kVpower dcpower pmpower cdpower ctpower : Value}
    {frow_at : Addr} {odrow_at anrow_at : Option Addr} {slrow_at : Array (Option Value)} {ocrow_at kVrow_at dcrow_at pmrow_at cdrow_at ctrow_at : Value}
    {fbefore_tail_row : Addr} {odbefore_tail_row anbefore_tail_row : Option Addr} {slbefore_tail_row : Array (Option Value)} {ocbefore_tail_row kVbefore_tail_row dcbefore_tail_row pmbefore_tail_row cdbefore_tail_row ctbefore_tail_row : Value}
    {ffirst_number : Addr} {odfirst_number anfirst_number : Option Addr} {slfirst_number : Array (Option Value)} {ocfirst_number kVfirst_number dcfirst_number pmfirst_number cdfirst_number ctfirst_number : Value}
    {ftail_row_with : Addr} {odtail_row_with antail_row_with : Option Addr} {sltail_row_with : Array (Option Value)} {octail_row_with kVtail_row_with dctail_row_with pmtail_row_with cdtail_row_with cttail_row_with : Value}
    {frow_with : Addr} {odrow_with anrow_with : Option Addr} {slrow_with : Array (Option Value)} {ocrow_with kVrow_with dcrow_with pmrow_with cdrow_with ctrow_with : Value}
    {fplaces : Addr} {odplaces anplaces : Option Addr} {slplaces : Array (Option Value)} {ocplaces kVplaces dcplaces pmplaces cdplaces ctplaces : Value}
    {fbits_of : Addr} {odbits_of anbits_of : Option Addr} {slbits_of : Array (Option Value)} {ocbits_of kVbits_of dcbits_of pmbits_of cdbits_of ctbits_of : Value}
    {fsize_of : Addr} {odsize_of ansize_of : Option Addr} {slsize_of : Array (Option Value)} {ocsize_of kVsize_of dcsize_of pmsize_of cdsize_of ctsize_of : Value}
    {fCode_init : Addr} {odCode_init anCode_init : Option Addr} {slCode_init : Array (Option Value)} {ocCode_init kVCode_init dcCode_init pmCode_init cdCode_init ctCode_init : Value}
    {fCode_bits : Addr} {odCode_bits anCode_bits : Option Addr} {slCode_bits : Array (Option Value)} {ocCode_bits kVCode_bits dcCode_bits pmCode_bits cdCode_bits ctCode_bits : Value}
    {fCode_size : Addr} {odCode_size anCode_size : Option Addr} {slCode_size : Array (Option Value)} {ocCode_size kVCode_size dcCode_size pmCode_size cdCode_size ctCode_size : Value}
    {fnear_rows : Addr} {odnear_rows annear_rows : Option Addr} {slnear_rows : Array (Option Value)} {ocnear_rows kVnear_rows dcnear_rows pmnear_rows cdnear_rows ctnear_rows : Value}
    {fare_unfree : Addr} {odare_unfree anare_unfree : Option Addr} {slare_unfree : Array (Option Value)} {ocare_unfree kVare_unfree dcare_unfree pmare_unfree cdare_unfree ctare_unfree : Value}
    {fis_free : Addr} {odis_free anis_free : Option Addr} {slis_free : Array (Option Value)} {ocis_free kVis_free dcis_free pmis_free cdis_free ctis_free : Value}
    {fcheck_free : Addr} {odcheck_free ancheck_free : Option Addr} {slcheck_free : Array (Option Value)} {occheck_free kVcheck_free dccheck_free pmcheck_free cdcheck_free ctcheck_free : Value}
    {fclash : Addr} {odclash anclash : Option Addr} {slclash : Array (Option Value)} {occlash kVclash dcclash pmclash cdclash ctclash : Value}
    {fleast_clash : Addr} {odleast_clash anleast_clash : Option Addr} {slleast_clash : Array (Option Value)} {ocleast_clash kVleast_clash dcleast_clash pmleast_clash cdleast_clash ctleast_clash : Value}
    {fleast_other : Addr} {odleast_other anleast_other : Option Addr} {slleast_other : Array (Option Value)} {ocleast_other kVleast_other dcleast_other pmleast_other cdleast_other ctleast_other : Value}
    {fleast_in_row : Addr} {odleast_in_row anleast_in_row : Option Addr} {slleast_in_row : Array (Option Value)} {ocleast_in_row kVleast_in_row dcleast_in_row pmleast_in_row cdleast_in_row ctleast_in_row : Value}
    {fnumber_of : Addr} {odnumber_of annumber_of : Option Addr} {slnumber_of : Array (Option Value)} {ocnumber_of kVnumber_of dcnumber_of pmnumber_of cdnumber_of ctnumber_of : Value}
    {fwithin_row : Addr} {odwithin_row anwithin_row : Option Addr} {slwithin_row : Array (Option Value)} {ocwithin_row kVwithin_row dcwithin_row pmwithin_row cdwithin_row ctwithin_row : Value}
    {ffar_row : Addr} {odfar_row anfar_row : Option Addr} {slfar_row : Array (Option Value)} {ocfar_row kVfar_row dcfar_row pmfar_row cdfar_row ctfar_row : Value}
    {frows_with : Addr} {odrows_with anrows_with : Option Addr} {slrows_with : Array (Option Value)} {ocrows_with kVrows_with dcrows_with pmrows_with cdrows_with ctrows_with : Value}
    {fleast_with : Addr} {odleast_with anleast_with : Option Addr} {slleast_with : Array (Option Value)} {ocleast_with kVleast_with dcleast_with pmleast_with cdleast_with ctleast_with : Value}
    {fcount_with : Addr} {odcount_with ancount_with : Option Addr} {slcount_with : Array (Option Value)} {occount_with kVcount_with dccount_with pmcount_with cdcount_with ctcount_with : Value}
    {fstarting : Addr} {odstarting anstarting : Option Addr} {slstarting : Array (Option Value)} {ocstarting kVstarting dcstarting pmstarting cdstarting ctstarting : Value}
    {fhow_many : Addr} {odhow_many anhow_many : Option Addr} {slhow_many : Array (Option Value)} {ochow_many kVhow_many dchow_many pmhow_many cdhow_many cthow_many : Value}
    {fis_whole_in : Addr} {odis_whole_in anis_whole_in : Option Addr} {slis_whole_in : Array (Option Value)} {ocis_whole_in kVis_whole_in dcis_whole_in pmis_whole_in cdis_whole_in ctis_whole_in : Value}
    {fis_dead_in : Addr} {odis_dead_in anis_dead_in : Option Addr} {slis_dead_in : Array (Option Value)} {ocis_dead_in kVis_dead_in dcis_dead_in pmis_dead_in cdis_dead_in ctis_dead_in : Value}
    {fdead : Addr} {oddead andead : Option Addr} {sldead : Array (Option Value)} {ocdead kVdead dcdead pmdead cddead ctdead : Value}
    {flowest : Addr} {odlowest anlowest : Option Addr} {sllowest : Array (Option Value)} {oclowest kVlowest dclowest pmlowest cdlowest ctlowest : Value}
    {fshare : Addr} {odshare anshare : Option Addr} {slshare : Array (Option Value)} {ocshare kVshare dcshare pmshare cdshare ctshare : Value}
    {forder : Addr} {odorder anorder : Option Addr} {slorder : Array (Option Value)} {ocorder kVorder dcorder pmorder cdorder ctorder : Value}
    {fgrowth_of : Addr} {odgrowth_of angrowth_of : Option Addr} {slgrowth_of : Array (Option Value)} {ocgrowth_of kVgrowth_of dcgrowth_of pmgrowth_of cdgrowth_of ctgrowth_of : Value}
    {fgrowth : Addr} {odgrowth angrowth : Option Addr} {slgrowth : Array (Option Value)} {ocgrowth kVgrowth dcgrowth pmgrowth cdgrowth ctgrowth : Value}
    {fgrows_more : Addr} {odgrows_more angrows_more : Option Addr} {slgrows_more : Array (Option Value)} {ocgrows_more kVgrows_more dcgrows_more pmgrows_more cdgrows_more ctgrows_more : Value}
    {fturns : Addr} {odturns anturns : Option Addr} {slturns : Array (Option Value)} {octurns kVturns dcturns pmturns cdturns ctturns : Value}
    {fdifferences : Addr} {oddifferences andifferences : Option Addr} {sldifferences : Array (Option Value)} {ocdifferences kVdifferences dcdifferences pmdifferences cddifferences ctdifferences : Value}
    {fnear_number : Addr} {odnear_number annear_number : Option Addr} {slnear_number : Array (Option Value)} {ocnear_number kVnear_number dcnear_number pmnear_number cdnear_number ctnear_number : Value}
    {ffigures : Addr} {odfigures anfigures : Option Addr} {slfigures : Array (Option Value)} {ocfigures kVfigures dcfigures pmfigures cdfigures ctfigures : Value}
    {ffar_number : Addr} {odfar_number anfar_number : Option Addr} {slfar_number : Array (Option Value)} {ocfar_number kVfar_number dcfar_number pmfar_number cdfar_number ctfar_number : Value}
    {ffarther : Addr} {odfarther anfarther : Option Addr} {slfarther : Array (Option Value)} {ocfarther kVfarther dcfarther pmfarther cdfarther ctfarther : Value}
    {flonger : Addr} {odlonger anlonger : Option Addr} {sllonger : Array (Option Value)} {oclonger kVlonger dclonger pmlonger cdlonger ctlonger : Value}
    {fgap : Addr} {odgap angap : Option Addr} {slgap : Array (Option Value)} {ocgap kVgap dcgap pmgap cdgap ctgap : Value}
    {fl_begin : Addr} {odl_begin anl_begin : Option Addr} {sll_begin : Array (Option Value)} {ocl_begin kVl_begin dcl_begin pml_begin cdl_begin ctl_begin : Value}
    {fl_draw : Addr} {odl_draw anl_draw : Option Addr} {sll_draw : Array (Option Value)} {ocl_draw kVl_draw dcl_draw pml_draw cdl_draw ctl_draw : Value}
    {fl_figures : Addr} {odl_figures anl_figures : Option Addr} {sll_figures : Array (Option Value)} {ocl_figures kVl_figures dcl_figures pml_figures cdl_figures ctl_figures : Value}
    {flaw : Addr} {odlaw anlaw : Option Addr} {sllaw : Array (Option Value)} {oclaw kVlaw dclaw pmlaw cdlaw ctlaw : Value}
    (gCode : PySem.W.nsIn K mainGlobals "Code" = some (some (.ref xCode)))
    (pgCode : PySem.W.plainGet K xCode Str.empty = true)
    (hdCode : PySem.W.hasDictIn K xCode = true)
    (poCode : PySem.W.plainOver K xCode = true)
    (saCode : PySem.W.findIn K (.ref xCode) "__setattr__" = some (some (.builtin "object.__setattr__")))
    (mkCode : PySem.W.makesIn K xCode = true)
    (kcCode : PySem.W.keepIn K (.ref xCode) = true)
    (naCoderows : PySem.W.findIn K (.ref xCode) "rows" = some none)
    (naCodetail : PySem.W.findIn K (.ref xCode) "tail" = some none)
    (naCodebegin : PySem.W.findIn K (.ref xCode) "begin" = some none)
    (gBadCode : PySem.W.nsIn K mainGlobals "BadCode" = some (some (.ref xBadCode)))
    (qBadCode : PySem.W.excIn K xBadCode [.type "ValueError", .type "Exception", .type "BaseException", .type "object"] "ValueError.__new__" = true)
    (kcBadCode : PySem.W.keepIn K (.ref xBadCode) = true)
    (ebBadCode : PySem.W.subIn K (.ref xBadCode) (.type "BaseException") = some true)
    (etBadCode : PySem.W.typeIn K (.ref xBadCode) = some (.type "type"))
    (gNotFree : PySem.W.nsIn K mainGlobals "NotFree" = some (some (.ref xNotFree)))
    (qNotFree : PySem.W.excIn K xNotFree [.type "ValueError", .type "Exception", .type "BaseException", .type "object"] "ValueError.__new__" = true)
    (kcNotFree : PySem.W.keepIn K (.ref xNotFree) = true)
    (ebNotFree : PySem.W.subIn K (.ref xNotFree) (.type "BaseException") = some true)
    (etNotFree : PySem.W.typeIn K (.ref xNotFree) = some (.type "type"))
    (gBITS : PySem.W.nsIn K mainGlobals "BITS" = some (some (.ref xBITS)))
    (lBITS : K.lookup xBITS = some ⟨.type "tuple", ddBITS, .seq #[.str "0" tBITS0, .str "1" tBITS1] nBITS, slBITS⟩)
    (gMOST_ROWS : PySem.W.nsIn K mainGlobals "MOST_ROWS" = some (some (.int 6 tMOST_ROWS)))
    (ais_whole : PySem.W.nsIn K mainGlobals "is_whole" = some (some (.ref fis_whole)))
    (lis_whole : K.lookup fis_whole = some ⟨ocis_whole, odis_whole, .func (PySem.W.fnOf "is_whole" "is_whole" (defArgs s_is_whole) (defBody s_is_whole) (defScope s_is_whole) .none kVis_whole dcis_whole pmis_whole anis_whole cdis_whole ctis_whole), slis_whole⟩)
    (cis_whole : PySem.W.codeIn K cdis_whole "is_whole" = true)
    (kis_whole : PySem.W.keepIn K (.ref fis_whole) = true)
    (aare_bits : PySem.W.nsIn K mainGlobals "are_bits" = some (some (.ref fare_bits)))
    (lare_bits : K.lookup fare_bits = some ⟨ocare_bits, odare_bits, .func (PySem.W.fnOf "are_bits" "are_bits" (defArgs s_are_bits) (defBody s_are_bits) (defScope s_are_bits) .none kVare_bits dcare_bits pmare_bits anare_bits cdare_bits ctare_bits), slare_bits⟩)
    (care_bits : PySem.W.codeIn K cdare_bits "are_bits" = true)
    (kare_bits : PySem.W.keepIn K (.ref fare_bits) = true)
    (ais_row : PySem.W.nsIn K mainGlobals "is_row" = some (some (.ref fis_row)))
    (lis_row : K.lookup fis_row = some ⟨ocis_row, odis_row, .func (PySem.W.fnOf "is_row" "is_row" (defArgs s_is_row) (defBody s_is_row) (defScope s_is_row) .none kVis_row dcis_row pmis_row anis_row cdis_row ctis_row), slis_row⟩)
    (cis_row : PySem.W.codeIn K cdis_row "is_row" = true)
    (kis_row : PySem.W.keepIn K (.ref fis_row) = true)
    (ais_tail : PySem.W.nsIn K mainGlobals "is_tail" = some (some (.ref fis_tail)))
    (lis_tail : K.lookup fis_tail = some ⟨ocis_tail, odis_tail, .func (PySem.W.fnOf "is_tail" "is_tail" (defArgs s_is_tail) (defBody s_is_tail) (defScope s_is_tail) .none kVis_tail dcis_tail pmis_tail anis_tail cdis_tail ctis_tail), slis_tail⟩)
    (cis_tail : PySem.W.codeIn K cdis_tail "is_tail" = true)
    (kis_tail : PySem.W.keepIn K (.ref fis_tail) = true)
    (apower : PySem.W.nsIn K mainGlobals "power" = some (some (.ref fpower)))
    (lpower : K.lookup fpower = some ⟨ocpower, odpower, .func (PySem.W.fnOf "power" "power" (defArgs s_power) (defBody s_power) (defScope s_power) .none kVpower dcpower pmpower anpower cdpower ctpower), slpower⟩)
    (cpower : PySem.W.codeIn K cdpower "power" = true)
    (kpower : PySem.W.keepIn K (.ref fpower) = true)
    (arow_at : PySem.W.nsIn K mainGlobals "row_at" = some (some (.ref frow_at)))
    (lrow_at : K.lookup frow_at = some ⟨ocrow_at, odrow_at, .func (PySem.W.fnOf "row_at" "row_at" (defArgs s_row_at) (defBody s_row_at) (defScope s_row_at) .none kVrow_at dcrow_at pmrow_at anrow_at cdrow_at ctrow_at), slrow_at⟩)
    (crow_at : PySem.W.codeIn K cdrow_at "row_at" = true)
    (krow_at : PySem.W.keepIn K (.ref frow_at) = true)
    (abefore_tail_row : PySem.W.nsIn K mainGlobals "before_tail_row" = some (some (.ref fbefore_tail_row)))
    (lbefore_tail_row : K.lookup fbefore_tail_row = some ⟨ocbefore_tail_row, odbefore_tail_row, .func (PySem.W.fnOf "before_tail_row" "before_tail_row" (defArgs s_before_tail_row) (defBody s_before_tail_row) (defScope s_before_tail_row) .none kVbefore_tail_row dcbefore_tail_row pmbefore_tail_row anbefore_tail_row cdbefore_tail_row ctbefore_tail_row), slbefore_tail_row⟩)
    (cbefore_tail_row : PySem.W.codeIn K cdbefore_tail_row "before_tail_row" = true)
    (kbefore_tail_row : PySem.W.keepIn K (.ref fbefore_tail_row) = true)
    (afirst_number : PySem.W.nsIn K mainGlobals "first_number" = some (some (.ref ffirst_number)))
    (lfirst_number : K.lookup ffirst_number = some ⟨ocfirst_number, odfirst_number, .func (PySem.W.fnOf "first_number" "first_number" (defArgs s_first_number) (defBody s_first_number) (defScope s_first_number) .none kVfirst_number dcfirst_number pmfirst_number anfirst_number cdfirst_number ctfirst_number), slfirst_number⟩)
    (cfirst_number : PySem.W.codeIn K cdfirst_number "first_number" = true)
    (kfirst_number : PySem.W.keepIn K (.ref ffirst_number) = true)
    (atail_row_with : PySem.W.nsIn K mainGlobals "tail_row_with" = some (some (.ref ftail_row_with)))
    (ltail_row_with : K.lookup ftail_row_with = some ⟨octail_row_with, odtail_row_with, .func (PySem.W.fnOf "tail_row_with" "tail_row_with" (defArgs s_tail_row_with) (defBody s_tail_row_with) (defScope s_tail_row_with) .none kVtail_row_with dctail_row_with pmtail_row_with antail_row_with cdtail_row_with cttail_row_with), sltail_row_with⟩)
    (ctail_row_with : PySem.W.codeIn K cdtail_row_with "tail_row_with" = true)
    (ktail_row_with : PySem.W.keepIn K (.ref ftail_row_with) = true)
    (arow_with : PySem.W.nsIn K mainGlobals "row_with" = some (some (.ref frow_with)))
    (lrow_with : K.lookup frow_with = some ⟨ocrow_with, odrow_with, .func (PySem.W.fnOf "row_with" "row_with" (defArgs s_row_with) (defBody s_row_with) (defScope s_row_with) .none kVrow_with dcrow_with pmrow_with anrow_with cdrow_with ctrow_with), slrow_with⟩)
    (crow_with : PySem.W.codeIn K cdrow_with "row_with" = true)
    (krow_with : PySem.W.keepIn K (.ref frow_with) = true)
    (aplaces : PySem.W.nsIn K mainGlobals "places" = some (some (.ref fplaces)))
    (lplaces : K.lookup fplaces = some ⟨ocplaces, odplaces, .func (PySem.W.fnOf "places" "places" (defArgs s_places) (defBody s_places) (defScope s_places) .none kVplaces dcplaces pmplaces anplaces cdplaces ctplaces), slplaces⟩)
    (cplaces : PySem.W.codeIn K cdplaces "places" = true)
    (kplaces : PySem.W.keepIn K (.ref fplaces) = true)
    (abits_of : PySem.W.nsIn K mainGlobals "bits_of" = some (some (.ref fbits_of)))
    (lbits_of : K.lookup fbits_of = some ⟨ocbits_of, odbits_of, .func (PySem.W.fnOf "bits_of" "bits_of" (defArgs s_bits_of) (defBody s_bits_of) (defScope s_bits_of) .none kVbits_of dcbits_of pmbits_of anbits_of cdbits_of ctbits_of), slbits_of⟩)
    (cbits_of : PySem.W.codeIn K cdbits_of "bits_of" = true)
    (kbits_of : PySem.W.keepIn K (.ref fbits_of) = true)
    (asize_of : PySem.W.nsIn K mainGlobals "size_of" = some (some (.ref fsize_of)))
    (lsize_of : K.lookup fsize_of = some ⟨ocsize_of, odsize_of, .func (PySem.W.fnOf "size_of" "size_of" (defArgs s_size_of) (defBody s_size_of) (defScope s_size_of) .none kVsize_of dcsize_of pmsize_of ansize_of cdsize_of ctsize_of), slsize_of⟩)
    (csize_of : PySem.W.codeIn K cdsize_of "size_of" = true)
    (ksize_of : PySem.W.keepIn K (.ref fsize_of) = true)
    (aCode_init : PySem.W.findIn K (.ref xCode) "__init__" = some (some (.ref fCode_init)))
    (iCode_init : PySem.W.isFn K (.ref fCode_init) = true)
    (lCode_init : K.lookup fCode_init = some ⟨ocCode_init, odCode_init, .func (PySem.W.fnOf "__init__" "Code.__init__" (defArgs s_Code_init) (defBody s_Code_init) (defScope s_Code_init) .none kVCode_init dcCode_init pmCode_init anCode_init cdCode_init ctCode_init), slCode_init⟩)
    (cCode_init : PySem.W.codeIn K cdCode_init "Code.__init__" = true)
    (kCode_init : PySem.W.keepIn K (.ref fCode_init) = true)
    (aCode_bits : PySem.W.findIn K (.ref xCode) "bits" = some (some (.ref fCode_bits)))
    (iCode_bits : PySem.W.isFn K (.ref fCode_bits) = true)
    (lCode_bits : K.lookup fCode_bits = some ⟨ocCode_bits, odCode_bits, .func (PySem.W.fnOf "bits" "Code.bits" (defArgs s_Code_bits) (defBody s_Code_bits) (defScope s_Code_bits) .none kVCode_bits dcCode_bits pmCode_bits anCode_bits cdCode_bits ctCode_bits), slCode_bits⟩)
    (cCode_bits : PySem.W.codeIn K cdCode_bits "Code.bits" = true)
    (kCode_bits : PySem.W.keepIn K (.ref fCode_bits) = true)
    (aCode_size : PySem.W.findIn K (.ref xCode) "size" = some (some (.ref fCode_size)))
    (iCode_size : PySem.W.isFn K (.ref fCode_size) = true)
    (lCode_size : K.lookup fCode_size = some ⟨ocCode_size, odCode_size, .func (PySem.W.fnOf "size" "Code.size" (defArgs s_Code_size) (defBody s_Code_size) (defScope s_Code_size) .none kVCode_size dcCode_size pmCode_size anCode_size cdCode_size ctCode_size), slCode_size⟩)
    (cCode_size : PySem.W.codeIn K cdCode_size "Code.size" = true)
    (kCode_size : PySem.W.keepIn K (.ref fCode_size) = true)
    (anear_rows : PySem.W.nsIn K mainGlobals "near_rows" = some (some (.ref fnear_rows)))
    (lnear_rows : K.lookup fnear_rows = some ⟨ocnear_rows, odnear_rows, .func (PySem.W.fnOf "near_rows" "near_rows" (defArgs s_near_rows) (defBody s_near_rows) (defScope s_near_rows) .none kVnear_rows dcnear_rows pmnear_rows annear_rows cdnear_rows ctnear_rows), slnear_rows⟩)
    (cnear_rows : PySem.W.codeIn K cdnear_rows "near_rows" = true)
    (knear_rows : PySem.W.keepIn K (.ref fnear_rows) = true)
    (aare_unfree : PySem.W.nsIn K mainGlobals "are_unfree" = some (some (.ref fare_unfree)))
    (lare_unfree : K.lookup fare_unfree = some ⟨ocare_unfree, odare_unfree, .func (PySem.W.fnOf "are_unfree" "are_unfree" (defArgs s_are_unfree) (defBody s_are_unfree) (defScope s_are_unfree) .none kVare_unfree dcare_unfree pmare_unfree anare_unfree cdare_unfree ctare_unfree), slare_unfree⟩)
    (care_unfree : PySem.W.codeIn K cdare_unfree "are_unfree" = true)
    (kare_unfree : PySem.W.keepIn K (.ref fare_unfree) = true)
    (ais_free : PySem.W.nsIn K mainGlobals "is_free" = some (some (.ref fis_free)))
    (lis_free : K.lookup fis_free = some ⟨ocis_free, odis_free, .func (PySem.W.fnOf "is_free" "is_free" (defArgs s_is_free) (defBody s_is_free) (defScope s_is_free) .none kVis_free dcis_free pmis_free anis_free cdis_free ctis_free), slis_free⟩)
    (cis_free : PySem.W.codeIn K cdis_free "is_free" = true)
    (kis_free : PySem.W.keepIn K (.ref fis_free) = true)
    (acheck_free : PySem.W.nsIn K mainGlobals "check_free" = some (some (.ref fcheck_free)))
    (lcheck_free : K.lookup fcheck_free = some ⟨occheck_free, odcheck_free, .func (PySem.W.fnOf "check_free" "check_free" (defArgs s_check_free) (defBody s_check_free) (defScope s_check_free) .none kVcheck_free dccheck_free pmcheck_free ancheck_free cdcheck_free ctcheck_free), slcheck_free⟩)
    (ccheck_free : PySem.W.codeIn K cdcheck_free "check_free" = true)
    (kcheck_free : PySem.W.keepIn K (.ref fcheck_free) = true)
    (aclash : PySem.W.nsIn K mainGlobals "clash" = some (some (.ref fclash)))
    (lclash : K.lookup fclash = some ⟨occlash, odclash, .func (PySem.W.fnOf "clash" "clash" (defArgs s_clash) (defBody s_clash) (defScope s_clash) .none kVclash dcclash pmclash anclash cdclash ctclash), slclash⟩)
    (cclash : PySem.W.codeIn K cdclash "clash" = true)
    (kclash : PySem.W.keepIn K (.ref fclash) = true)
    (aleast_clash : PySem.W.nsIn K mainGlobals "least_clash" = some (some (.ref fleast_clash)))
    (lleast_clash : K.lookup fleast_clash = some ⟨ocleast_clash, odleast_clash, .func (PySem.W.fnOf "least_clash" "least_clash" (defArgs s_least_clash) (defBody s_least_clash) (defScope s_least_clash) .none kVleast_clash dcleast_clash pmleast_clash anleast_clash cdleast_clash ctleast_clash), slleast_clash⟩)
    (cleast_clash : PySem.W.codeIn K cdleast_clash "least_clash" = true)
    (kleast_clash : PySem.W.keepIn K (.ref fleast_clash) = true)
    (aleast_other : PySem.W.nsIn K mainGlobals "least_other" = some (some (.ref fleast_other)))
    (lleast_other : K.lookup fleast_other = some ⟨ocleast_other, odleast_other, .func (PySem.W.fnOf "least_other" "least_other" (defArgs s_least_other) (defBody s_least_other) (defScope s_least_other) .none kVleast_other dcleast_other pmleast_other anleast_other cdleast_other ctleast_other), slleast_other⟩)
    (cleast_other : PySem.W.codeIn K cdleast_other "least_other" = true)
    (kleast_other : PySem.W.keepIn K (.ref fleast_other) = true)
    (aleast_in_row : PySem.W.nsIn K mainGlobals "least_in_row" = some (some (.ref fleast_in_row)))
    (lleast_in_row : K.lookup fleast_in_row = some ⟨ocleast_in_row, odleast_in_row, .func (PySem.W.fnOf "least_in_row" "least_in_row" (defArgs s_least_in_row) (defBody s_least_in_row) (defScope s_least_in_row) .none kVleast_in_row dcleast_in_row pmleast_in_row anleast_in_row cdleast_in_row ctleast_in_row), slleast_in_row⟩)
    (cleast_in_row : PySem.W.codeIn K cdleast_in_row "least_in_row" = true)
    (kleast_in_row : PySem.W.keepIn K (.ref fleast_in_row) = true)
    (anumber_of : PySem.W.nsIn K mainGlobals "number_of" = some (some (.ref fnumber_of)))
    (lnumber_of : K.lookup fnumber_of = some ⟨ocnumber_of, odnumber_of, .func (PySem.W.fnOf "number_of" "number_of" (defArgs s_number_of) (defBody s_number_of) (defScope s_number_of) .none kVnumber_of dcnumber_of pmnumber_of annumber_of cdnumber_of ctnumber_of), slnumber_of⟩)
    (cnumber_of : PySem.W.codeIn K cdnumber_of "number_of" = true)
    (knumber_of : PySem.W.keepIn K (.ref fnumber_of) = true)
    (awithin_row : PySem.W.nsIn K mainGlobals "within_row" = some (some (.ref fwithin_row)))
    (lwithin_row : K.lookup fwithin_row = some ⟨ocwithin_row, odwithin_row, .func (PySem.W.fnOf "within_row" "within_row" (defArgs s_within_row) (defBody s_within_row) (defScope s_within_row) .none kVwithin_row dcwithin_row pmwithin_row anwithin_row cdwithin_row ctwithin_row), slwithin_row⟩)
    (cwithin_row : PySem.W.codeIn K cdwithin_row "within_row" = true)
    (kwithin_row : PySem.W.keepIn K (.ref fwithin_row) = true)
    (afar_row : PySem.W.nsIn K mainGlobals "far_row" = some (some (.ref ffar_row)))
    (lfar_row : K.lookup ffar_row = some ⟨ocfar_row, odfar_row, .func (PySem.W.fnOf "far_row" "far_row" (defArgs s_far_row) (defBody s_far_row) (defScope s_far_row) .none kVfar_row dcfar_row pmfar_row anfar_row cdfar_row ctfar_row), slfar_row⟩)
    (cfar_row : PySem.W.codeIn K cdfar_row "far_row" = true)
    (kfar_row : PySem.W.keepIn K (.ref ffar_row) = true)
    (arows_with : PySem.W.nsIn K mainGlobals "rows_with" = some (some (.ref frows_with)))
    (lrows_with : K.lookup frows_with = some ⟨ocrows_with, odrows_with, .func (PySem.W.fnOf "rows_with" "rows_with" (defArgs s_rows_with) (defBody s_rows_with) (defScope s_rows_with) .none kVrows_with dcrows_with pmrows_with anrows_with cdrows_with ctrows_with), slrows_with⟩)
    (crows_with : PySem.W.codeIn K cdrows_with "rows_with" = true)
    (krows_with : PySem.W.keepIn K (.ref frows_with) = true)
    (aleast_with : PySem.W.nsIn K mainGlobals "least_with" = some (some (.ref fleast_with)))
    (lleast_with : K.lookup fleast_with = some ⟨ocleast_with, odleast_with, .func (PySem.W.fnOf "least_with" "least_with" (defArgs s_least_with) (defBody s_least_with) (defScope s_least_with) .none kVleast_with dcleast_with pmleast_with anleast_with cdleast_with ctleast_with), slleast_with⟩)
    (cleast_with : PySem.W.codeIn K cdleast_with "least_with" = true)
    (kleast_with : PySem.W.keepIn K (.ref fleast_with) = true)
    (acount_with : PySem.W.nsIn K mainGlobals "count_with" = some (some (.ref fcount_with)))
    (lcount_with : K.lookup fcount_with = some ⟨occount_with, odcount_with, .func (PySem.W.fnOf "count_with" "count_with" (defArgs s_count_with) (defBody s_count_with) (defScope s_count_with) .none kVcount_with dccount_with pmcount_with ancount_with cdcount_with ctcount_with), slcount_with⟩)
    (ccount_with : PySem.W.codeIn K cdcount_with "count_with" = true)
    (kcount_with : PySem.W.keepIn K (.ref fcount_with) = true)
    (astarting : PySem.W.nsIn K mainGlobals "starting" = some (some (.ref fstarting)))
    (lstarting : K.lookup fstarting = some ⟨ocstarting, odstarting, .func (PySem.W.fnOf "starting" "starting" (defArgs s_starting) (defBody s_starting) (defScope s_starting) .none kVstarting dcstarting pmstarting anstarting cdstarting ctstarting), slstarting⟩)
    (cstarting : PySem.W.codeIn K cdstarting "starting" = true)
    (kstarting : PySem.W.keepIn K (.ref fstarting) = true)
    (ahow_many : PySem.W.nsIn K mainGlobals "how_many" = some (some (.ref fhow_many)))
    (lhow_many : K.lookup fhow_many = some ⟨ochow_many, odhow_many, .func (PySem.W.fnOf "how_many" "how_many" (defArgs s_how_many) (defBody s_how_many) (defScope s_how_many) .none kVhow_many dchow_many pmhow_many anhow_many cdhow_many cthow_many), slhow_many⟩)
    (chow_many : PySem.W.codeIn K cdhow_many "how_many" = true)
    (khow_many : PySem.W.keepIn K (.ref fhow_many) = true)
    (ais_whole_in : PySem.W.nsIn K mainGlobals "is_whole_in" = some (some (.ref fis_whole_in)))
    (lis_whole_in : K.lookup fis_whole_in = some ⟨ocis_whole_in, odis_whole_in, .func (PySem.W.fnOf "is_whole_in" "is_whole_in" (defArgs s_is_whole_in) (defBody s_is_whole_in) (defScope s_is_whole_in) .none kVis_whole_in dcis_whole_in pmis_whole_in anis_whole_in cdis_whole_in ctis_whole_in), slis_whole_in⟩)
    (cis_whole_in : PySem.W.codeIn K cdis_whole_in "is_whole_in" = true)
    (kis_whole_in : PySem.W.keepIn K (.ref fis_whole_in) = true)
    (ais_dead_in : PySem.W.nsIn K mainGlobals "is_dead_in" = some (some (.ref fis_dead_in)))
    (lis_dead_in : K.lookup fis_dead_in = some ⟨ocis_dead_in, odis_dead_in, .func (PySem.W.fnOf "is_dead_in" "is_dead_in" (defArgs s_is_dead_in) (defBody s_is_dead_in) (defScope s_is_dead_in) .none kVis_dead_in dcis_dead_in pmis_dead_in anis_dead_in cdis_dead_in ctis_dead_in), slis_dead_in⟩)
    (cis_dead_in : PySem.W.codeIn K cdis_dead_in "is_dead_in" = true)
    (kis_dead_in : PySem.W.keepIn K (.ref fis_dead_in) = true)
    (adead : PySem.W.nsIn K mainGlobals "dead" = some (some (.ref fdead)))
    (ldead : K.lookup fdead = some ⟨ocdead, oddead, .func (PySem.W.fnOf "dead" "dead" (defArgs s_dead) (defBody s_dead) (defScope s_dead) .none kVdead dcdead pmdead andead cddead ctdead), sldead⟩)
    (cdead : PySem.W.codeIn K cddead "dead" = true)
    (kdead : PySem.W.keepIn K (.ref fdead) = true)
    (alowest : PySem.W.nsIn K mainGlobals "lowest" = some (some (.ref flowest)))
    (llowest : K.lookup flowest = some ⟨oclowest, odlowest, .func (PySem.W.fnOf "lowest" "lowest" (defArgs s_lowest) (defBody s_lowest) (defScope s_lowest) .none kVlowest dclowest pmlowest anlowest cdlowest ctlowest), sllowest⟩)
    (clowest : PySem.W.codeIn K cdlowest "lowest" = true)
    (klowest : PySem.W.keepIn K (.ref flowest) = true)
    (ashare : PySem.W.nsIn K mainGlobals "share" = some (some (.ref fshare)))
    (lshare : K.lookup fshare = some ⟨ocshare, odshare, .func (PySem.W.fnOf "share" "share" (defArgs s_share) (defBody s_share) (defScope s_share) .none kVshare dcshare pmshare anshare cdshare ctshare), slshare⟩)
    (cshare : PySem.W.codeIn K cdshare "share" = true)
    (kshare : PySem.W.keepIn K (.ref fshare) = true)
    (aorder : PySem.W.nsIn K mainGlobals "order" = some (some (.ref forder)))
    (lorder : K.lookup forder = some ⟨ocorder, odorder, .func (PySem.W.fnOf "order" "order" (defArgs s_order) (defBody s_order) (defScope s_order) .none kVorder dcorder pmorder anorder cdorder ctorder), slorder⟩)
    (corder : PySem.W.codeIn K cdorder "order" = true)
    (korder : PySem.W.keepIn K (.ref forder) = true)
    (agrowth_of : PySem.W.nsIn K mainGlobals "growth_of" = some (some (.ref fgrowth_of)))
    (lgrowth_of : K.lookup fgrowth_of = some ⟨ocgrowth_of, odgrowth_of, .func (PySem.W.fnOf "growth_of" "growth_of" (defArgs s_growth_of) (defBody s_growth_of) (defScope s_growth_of) .none kVgrowth_of dcgrowth_of pmgrowth_of angrowth_of cdgrowth_of ctgrowth_of), slgrowth_of⟩)
    (cgrowth_of : PySem.W.codeIn K cdgrowth_of "growth_of" = true)
    (kgrowth_of : PySem.W.keepIn K (.ref fgrowth_of) = true)
    (agrowth : PySem.W.nsIn K mainGlobals "growth" = some (some (.ref fgrowth)))
    (lgrowth : K.lookup fgrowth = some ⟨ocgrowth, odgrowth, .func (PySem.W.fnOf "growth" "growth" (defArgs s_growth) (defBody s_growth) (defScope s_growth) .none kVgrowth dcgrowth pmgrowth angrowth cdgrowth ctgrowth), slgrowth⟩)
    (cgrowth : PySem.W.codeIn K cdgrowth "growth" = true)
    (kgrowth : PySem.W.keepIn K (.ref fgrowth) = true)
    (agrows_more : PySem.W.nsIn K mainGlobals "grows_more" = some (some (.ref fgrows_more)))
    (lgrows_more : K.lookup fgrows_more = some ⟨ocgrows_more, odgrows_more, .func (PySem.W.fnOf "grows_more" "grows_more" (defArgs s_grows_more) (defBody s_grows_more) (defScope s_grows_more) .none kVgrows_more dcgrows_more pmgrows_more angrows_more cdgrows_more ctgrows_more), slgrows_more⟩)
    (cgrows_more : PySem.W.codeIn K cdgrows_more "grows_more" = true)
    (kgrows_more : PySem.W.keepIn K (.ref fgrows_more) = true)
    (aturns : PySem.W.nsIn K mainGlobals "turns" = some (some (.ref fturns)))
    (lturns : K.lookup fturns = some ⟨octurns, odturns, .func (PySem.W.fnOf "turns" "turns" (defArgs s_turns) (defBody s_turns) (defScope s_turns) .none kVturns dcturns pmturns anturns cdturns ctturns), slturns⟩)
    (cturns : PySem.W.codeIn K cdturns "turns" = true)
    (kturns : PySem.W.keepIn K (.ref fturns) = true)
    (adifferences : PySem.W.nsIn K mainGlobals "differences" = some (some (.ref fdifferences)))
    (ldifferences : K.lookup fdifferences = some ⟨ocdifferences, oddifferences, .func (PySem.W.fnOf "differences" "differences" (defArgs s_differences) (defBody s_differences) (defScope s_differences) .none kVdifferences dcdifferences pmdifferences andifferences cddifferences ctdifferences), sldifferences⟩)
    (cdifferences : PySem.W.codeIn K cddifferences "differences" = true)
    (kdifferences : PySem.W.keepIn K (.ref fdifferences) = true)
    (anear_number : PySem.W.nsIn K mainGlobals "near_number" = some (some (.ref fnear_number)))
    (lnear_number : K.lookup fnear_number = some ⟨ocnear_number, odnear_number, .func (PySem.W.fnOf "near_number" "near_number" (defArgs s_near_number) (defBody s_near_number) (defScope s_near_number) .none kVnear_number dcnear_number pmnear_number annear_number cdnear_number ctnear_number), slnear_number⟩)
    (cnear_number : PySem.W.codeIn K cdnear_number "near_number" = true)
    (knear_number : PySem.W.keepIn K (.ref fnear_number) = true)
    (afigures : PySem.W.nsIn K mainGlobals "figures" = some (some (.ref ffigures)))
    (lfigures : K.lookup ffigures = some ⟨ocfigures, odfigures, .func (PySem.W.fnOf "figures" "figures" (defArgs s_figures) (defBody s_figures) (defScope s_figures) .none kVfigures dcfigures pmfigures anfigures cdfigures ctfigures), slfigures⟩)
    (cfigures : PySem.W.codeIn K cdfigures "figures" = true)
    (kfigures : PySem.W.keepIn K (.ref ffigures) = true)
    (afar_number : PySem.W.nsIn K mainGlobals "far_number" = some (some (.ref ffar_number)))
    (lfar_number : K.lookup ffar_number = some ⟨ocfar_number, odfar_number, .func (PySem.W.fnOf "far_number" "far_number" (defArgs s_far_number) (defBody s_far_number) (defScope s_far_number) .none kVfar_number dcfar_number pmfar_number anfar_number cdfar_number ctfar_number), slfar_number⟩)
    (cfar_number : PySem.W.codeIn K cdfar_number "far_number" = true)
    (kfar_number : PySem.W.keepIn K (.ref ffar_number) = true)
    (afarther : PySem.W.nsIn K mainGlobals "farther" = some (some (.ref ffarther)))
    (lfarther : K.lookup ffarther = some ⟨ocfarther, odfarther, .func (PySem.W.fnOf "farther" "farther" (defArgs s_farther) (defBody s_farther) (defScope s_farther) .none kVfarther dcfarther pmfarther anfarther cdfarther ctfarther), slfarther⟩)
    (cfarther : PySem.W.codeIn K cdfarther "farther" = true)
    (kfarther : PySem.W.keepIn K (.ref ffarther) = true)
    (alonger : PySem.W.nsIn K mainGlobals "longer" = some (some (.ref flonger)))
    (llonger : K.lookup flonger = some ⟨oclonger, odlonger, .func (PySem.W.fnOf "longer" "longer" (defArgs s_longer) (defBody s_longer) (defScope s_longer) .none kVlonger dclonger pmlonger anlonger cdlonger ctlonger), sllonger⟩)
    (clonger : PySem.W.codeIn K cdlonger "longer" = true)
    (klonger : PySem.W.keepIn K (.ref flonger) = true)
    (agap : PySem.W.nsIn K mainGlobals "gap" = some (some (.ref fgap)))
    (lgap : K.lookup fgap = some ⟨ocgap, odgap, .func (PySem.W.fnOf "gap" "gap" (defArgs s_gap) (defBody s_gap) (defScope s_gap) .none kVgap dcgap pmgap angap cdgap ctgap), slgap⟩)
    (cgap : PySem.W.codeIn K cdgap "gap" = true)
    (kgap : PySem.W.keepIn K (.ref fgap) = true)
    (al_begin : PySem.W.nsIn K mainGlobals "_law_begin" = some (some (.ref fl_begin)))
    (ll_begin : K.lookup fl_begin = some ⟨ocl_begin, odl_begin, .func (PySem.W.fnOf "_law_begin" "_law_begin" (defArgs s_l_begin) (defBody s_l_begin) (defScope s_l_begin) .none kVl_begin dcl_begin pml_begin anl_begin cdl_begin ctl_begin), sll_begin⟩)
    (cl_begin : PySem.W.codeIn K cdl_begin "_law_begin" = true)
    (kl_begin : PySem.W.keepIn K (.ref fl_begin) = true)
    (al_draw : PySem.W.nsIn K mainGlobals "_law_draw" = some (some (.ref fl_draw)))
    (ll_draw : K.lookup fl_draw = some ⟨ocl_draw, odl_draw, .func (PySem.W.fnOf "_law_draw" "_law_draw" (defArgs s_l_draw) (defBody s_l_draw) (defScope s_l_draw) .none kVl_draw dcl_draw pml_draw anl_draw cdl_draw ctl_draw), sll_draw⟩)
    (cl_draw : PySem.W.codeIn K cdl_draw "_law_draw" = true)
    (kl_draw : PySem.W.keepIn K (.ref fl_draw) = true)
    (al_figures : PySem.W.nsIn K mainGlobals "_law_figures" = some (some (.ref fl_figures)))
    (ll_figures : K.lookup fl_figures = some ⟨ocl_figures, odl_figures, .func (PySem.W.fnOf "_law_figures" "_law_figures" (defArgs s_l_figures) (defBody s_l_figures) (defScope s_l_figures) .none kVl_figures dcl_figures pml_figures anl_figures cdl_figures ctl_figures), sll_figures⟩)
    (cl_figures : PySem.W.codeIn K cdl_figures "_law_figures" = true)
    (kl_figures : PySem.W.keepIn K (.ref fl_figures) = true)
    (alaw : PySem.W.nsIn K mainGlobals "law" = some (some (.ref flaw)))
    (llaw : K.lookup flaw = some ⟨oclaw, odlaw, .func (PySem.W.fnOf "law" "law" (defArgs s_law) (defBody s_law) (defScope s_law) .none kVlaw dclaw pmlaw anlaw cdlaw ctlaw), sllaw⟩)
    (claw : PySem.W.codeIn K cdlaw "law" = true)
    (klaw : PySem.W.keepIn K (.ref flaw) = true)
    (zall : PySem.W.nsIn K mainGlobals "all" = some none)
    (zany : PySem.W.nsIn K mainGlobals "any" = some none)
    (zbool : PySem.W.nsIn K mainGlobals "bool" = some none)
    (zint : PySem.W.nsIn K mainGlobals "int" = some none)
    (zisinstance : PySem.W.nsIn K mainGlobals "isinstance" = some none)
    (zlen : PySem.W.nsIn K mainGlobals "len" = some none)
    (zlist : PySem.W.nsIn K mainGlobals "list" = some none)
    (zmax : PySem.W.nsIn K mainGlobals "max" = some none)
    (zmin : PySem.W.nsIn K mainGlobals "min" = some none)
    (zrange : PySem.W.nsIn K mainGlobals "range" = some none)
    (zsorted : PySem.W.nsIn K mainGlobals "sorted" = some none)
    (zstr : PySem.W.nsIn K mainGlobals "str" = some none)
    (zsum : PySem.W.nsIn K mainGlobals "sum" = some none)
    (ztuple : PySem.W.nsIn K mainGlobals "tuple" = some none) :
    ∃ B : Adr, ∃ fd : FuncData, (∀ (s : Shared) (v : Value), BindsTo s fd ⟨[v], []⟩ [("_law_script", v)]) ∧ ∀ base : Heap, K.In base → base.Ns mainGlobals mg → FnOk l.prog w K mg base CX0 9 fa fd ["_law_script"] (sp_law K B) := by
  have e := hfa.symm.trans (PySem.W.mg_of X G alaw)
  cases e
  have Fis_whole := fun_mk (st := s_is_whole) lis_whole cis_whole kis_whole
  have Fare_bits := fun_mk (st := s_are_bits) lare_bits care_bits kare_bits
  have Fis_row := fun_mk (st := s_is_row) lis_row cis_row kis_row
  have Fis_tail := fun_mk (st := s_is_tail) lis_tail cis_tail kis_tail
  have Fpower := fun_mk (st := s_power) lpower cpower kpower
  have Frow_at := fun_mk (st := s_row_at) lrow_at crow_at krow_at
  have Fbefore_tail_row := fun_mk (st := s_before_tail_row) lbefore_tail_row cbefore_tail_row kbefore_tail_row
  have Ffirst_number := fun_mk (st := s_first_number) lfirst_number cfirst_number kfirst_number
  have Ftail_row_with := fun_mk (st := s_tail_row_with) ltail_row_with ctail_row_with ktail_row_with
  have Frow_with := fun_mk (st := s_row_with) lrow_with crow_with krow_with
  have Fplaces := fun_mk (st := s_places) lplaces cplaces kplaces
  have Fbits_of := fun_mk (st := s_bits_of) lbits_of cbits_of kbits_of
  have Fsize_of := fun_mk (st := s_size_of) lsize_of csize_of ksize_of
  have FCode_init := fun_mk (st := s_Code_init) lCode_init cCode_init kCode_init
  have FCode_bits := fun_mk (st := s_Code_bits) lCode_bits cCode_bits kCode_bits
  have FCode_size := fun_mk (st := s_Code_size) lCode_size cCode_size kCode_size
  have Fnear_rows := fun_mk (st := s_near_rows) lnear_rows cnear_rows knear_rows
  have Fare_unfree := fun_mk (st := s_are_unfree) lare_unfree care_unfree kare_unfree
  have Fis_free := fun_mk (st := s_is_free) lis_free cis_free kis_free
  have Fcheck_free := fun_mk (st := s_check_free) lcheck_free ccheck_free kcheck_free
  have Fclash := fun_mk (st := s_clash) lclash cclash kclash
  have Fleast_clash := fun_mk (st := s_least_clash) lleast_clash cleast_clash kleast_clash
  have Fleast_other := fun_mk (st := s_least_other) lleast_other cleast_other kleast_other
  have Fleast_in_row := fun_mk (st := s_least_in_row) lleast_in_row cleast_in_row kleast_in_row
  have Fnumber_of := fun_mk (st := s_number_of) lnumber_of cnumber_of knumber_of
  have Fwithin_row := fun_mk (st := s_within_row) lwithin_row cwithin_row kwithin_row
  have Ffar_row := fun_mk (st := s_far_row) lfar_row cfar_row kfar_row
  have Frows_with := fun_mk (st := s_rows_with) lrows_with crows_with krows_with
  have Fleast_with := fun_mk (st := s_least_with) lleast_with cleast_with kleast_with
  have Fcount_with := fun_mk (st := s_count_with) lcount_with ccount_with kcount_with
  have Fstarting := fun_mk (st := s_starting) lstarting cstarting kstarting
  have Fhow_many := fun_mk (st := s_how_many) lhow_many chow_many khow_many
  have Fis_whole_in := fun_mk (st := s_is_whole_in) lis_whole_in cis_whole_in kis_whole_in
  have Fis_dead_in := fun_mk (st := s_is_dead_in) lis_dead_in cis_dead_in kis_dead_in
  have Fdead := fun_mk (st := s_dead) ldead cdead kdead
  have Flowest := fun_mk (st := s_lowest) llowest clowest klowest
  have Fshare := fun_mk (st := s_share) lshare cshare kshare
  have Forder := fun_mk (st := s_order) lorder corder korder
  have Fgrowth_of := fun_mk (st := s_growth_of) lgrowth_of cgrowth_of kgrowth_of
  have Fgrowth := fun_mk (st := s_growth) lgrowth cgrowth kgrowth
  have Fgrows_more := fun_mk (st := s_grows_more) lgrows_more cgrows_more kgrows_more
  have Fturns := fun_mk (st := s_turns) lturns cturns kturns
  have Fdifferences := fun_mk (st := s_differences) ldifferences cdifferences kdifferences
  have Fnear_number := fun_mk (st := s_near_number) lnear_number cnear_number knear_number
  have Ffigures := fun_mk (st := s_figures) lfigures cfigures kfigures
  have Ffar_number := fun_mk (st := s_far_number) lfar_number cfar_number kfar_number
  have Ffarther := fun_mk (st := s_farther) lfarther cfarther kfarther
  have Flonger := fun_mk (st := s_longer) llonger clonger klonger
  have Fgap := fun_mk (st := s_gap) lgap cgap kgap
  have Fl_begin := fun_mk (st := s_l_begin) ll_begin cl_begin kl_begin
  have Fl_draw := fun_mk (st := s_l_draw) ll_draw cl_draw kl_draw
  have Fl_figures := fun_mk (st := s_l_figures) ll_figures cl_figures kl_figures
  have Flaw := fun_mk (st := s_law) llaw claw klaw
  have T : Txt K mg ⟨xCode, xBadCode, xNotFree, xBITS⟩ :=
    { d_is_whole := ⟨⟨_, _, Fis_whole, PySem.W.mg_of X G ais_whole, Fis_whole.binds (ps := ["thing", "least", "most"]) fun _ _ _ _ _ _ us hl => match us, hl with | [_, _, _], _ => rfl⟩⟩,
      d_are_bits := ⟨⟨_, _, Fare_bits, PySem.W.mg_of X G aare_bits, Fare_bits.binds (ps := ["thing", "least", "most"]) fun _ _ _ _ _ _ us hl => match us, hl with | [_, _, _], _ => rfl⟩⟩,
      d_is_row := ⟨⟨_, _, Fis_row, PySem.W.mg_of X G ais_row, Fis_row.binds (ps := ["thing"]) fun _ _ _ _ _ _ us hl => match us, hl with | [_], _ => rfl⟩⟩,
      d_is_tail := ⟨⟨_, _, Fis_tail, PySem.W.mg_of X G ais_tail, Fis_tail.binds (ps := ["thing"]) fun _ _ _ _ _ _ us hl => match us, hl with | [_], _ => rfl⟩⟩,
      d_power := ⟨⟨_, _, Fpower, PySem.W.mg_of X G apower, Fpower.binds (ps := ["times"]) fun _ _ _ _ _ _ us hl => match us, hl with | [_], _ => rfl⟩⟩,
      d_row_at := ⟨⟨_, _, Frow_at, PySem.W.mg_of X G arow_at, Frow_at.binds (ps := ["code", "r"]) fun _ _ _ _ _ _ us hl => match us, hl with | [_, _], _ => rfl⟩⟩,
      d_before_tail_row := ⟨⟨_, _, Fbefore_tail_row, PySem.W.mg_of X G abefore_tail_row, Fbefore_tail_row.binds (ps := ["code", "i"]) fun _ _ _ _ _ _ us hl => match us, hl with | [_, _], _ => rfl⟩⟩,
      d_first_number := ⟨⟨_, _, Ffirst_number, PySem.W.mg_of X G afirst_number, Ffirst_number.binds (ps := ["code", "r"]) fun _ _ _ _ _ _ us hl => match us, hl with | [_, _], _ => rfl⟩⟩,
      d_tail_row_with := ⟨⟨_, _, Ftail_row_with, PySem.W.mg_of X G atail_row_with, Ftail_row_with.binds (ps := ["code", "n"]) fun _ _ _ _ _ _ us hl => match us, hl with | [_, _], _ => rfl⟩⟩,
      d_row_with := ⟨⟨_, _, Frow_with, PySem.W.mg_of X G arow_with, Frow_with.binds (ps := ["code", "n"]) fun _ _ _ _ _ _ us hl => match us, hl with | [_, _], _ => rfl⟩⟩,
      d_places := ⟨⟨_, _, Fplaces, PySem.W.mg_of X G aplaces, Fplaces.binds (ps := ["number", "k"]) fun _ _ _ _ _ _ us hl => match us, hl with | [_, _], _ => rfl⟩⟩,
      d_bits_of := ⟨⟨_, _, Fbits_of, PySem.W.mg_of X G abits_of, Fbits_of.binds (ps := ["code", "n"]) fun _ _ _ _ _ _ us hl => match us, hl with | [_, _], _ => rfl⟩⟩,
      d_size_of := ⟨⟨_, _, Fsize_of, PySem.W.mg_of X G asize_of, Fsize_of.binds (ps := ["code", "n"]) fun _ _ _ _ _ _ us hl => match us, hl with | [_, _], _ => rfl⟩⟩,
      d_Code_init := ⟨⟨_, _, FCode_init, ⟨mkCode, aCode_init, iCode_init, kcCode⟩, FCode_init.binds (ps := ["self", "rows", "tail"]) fun _ _ _ _ _ _ us hl => match us, hl with | [_, _, _], _ => rfl⟩⟩,
      d_Code_bits := ⟨⟨_, _, FCode_bits, ⟨aCode_bits, iCode_bits, kCode_bits⟩, FCode_bits.binds (ps := ["self", "n"]) fun _ _ _ _ _ _ us hl => match us, hl with | [_, _], _ => rfl⟩⟩,
      d_Code_size := ⟨⟨_, _, FCode_size, ⟨aCode_size, iCode_size, kCode_size⟩, FCode_size.binds (ps := ["self", "n"]) fun _ _ _ _ _ _ us hl => match us, hl with | [_, _], _ => rfl⟩⟩,
      d_near_rows := ⟨⟨_, _, Fnear_rows, PySem.W.mg_of X G anear_rows, Fnear_rows.binds (ps := ["code"]) fun _ _ _ _ _ _ us hl => match us, hl with | [_], _ => rfl⟩⟩,
      d_are_unfree := ⟨⟨_, _, Fare_unfree, PySem.W.mg_of X G aare_unfree, Fare_unfree.binds (ps := ["code", "r", "other"]) fun _ _ _ _ _ _ us hl => match us, hl with | [_, _, _], _ => rfl⟩⟩,
      d_is_free := ⟨⟨_, _, Fis_free, PySem.W.mg_of X G ais_free, Fis_free.binds (ps := ["code"]) fun _ _ _ _ _ _ us hl => match us, hl with | [_], _ => rfl⟩⟩,
      d_check_free := ⟨⟨_, _, Fcheck_free, PySem.W.mg_of X G acheck_free, Fcheck_free.binds (ps := ["code"]) fun _ _ _ _ _ _ us hl => match us, hl with | [_], _ => rfl⟩⟩,
      d_clash := ⟨⟨_, _, Fclash, PySem.W.mg_of X G aclash, Fclash.binds (ps := ["code"]) fun _ _ _ _ _ _ us hl => match us, hl with | [_], _ => rfl⟩⟩,
      d_least_clash := ⟨⟨_, _, Fleast_clash, PySem.W.mg_of X G aleast_clash, Fleast_clash.binds (ps := ["code"]) fun _ _ _ _ _ _ us hl => match us, hl with | [_], _ => rfl⟩⟩,
      d_least_other := ⟨⟨_, _, Fleast_other, PySem.W.mg_of X G aleast_other, Fleast_other.binds (ps := ["code", "n"]) fun _ _ _ _ _ _ us hl => match us, hl with | [_, _], _ => rfl⟩⟩,
      d_least_in_row := ⟨⟨_, _, Fleast_in_row, PySem.W.mg_of X G aleast_in_row, Fleast_in_row.binds (ps := ["code", "r", "bits", "n"]) fun _ _ _ _ _ _ us hl => match us, hl with | [_, _, _, _], _ => rfl⟩⟩,
      d_number_of := ⟨⟨_, _, Fnumber_of, PySem.W.mg_of X G anumber_of, Fnumber_of.binds (ps := ["bits"]) fun _ _ _ _ _ _ us hl => match us, hl with | [_], _ => rfl⟩⟩,
      d_within_row := ⟨⟨_, _, Fwithin_row, PySem.W.mg_of X G awithin_row, Fwithin_row.binds (ps := ["code", "r", "bits"]) fun _ _ _ _ _ _ us hl => match us, hl with | [_, _, _], _ => rfl⟩⟩,
      d_far_row := ⟨⟨_, _, Ffar_row, PySem.W.mg_of X G afar_row, Ffar_row.binds (ps := ["code", "bits"]) fun _ _ _ _ _ _ us hl => match us, hl with | [_, _], _ => rfl⟩⟩,
      d_rows_with := ⟨⟨_, _, Frows_with, PySem.W.mg_of X G arows_with, Frows_with.binds (ps := ["code", "bits"]) fun _ _ _ _ _ _ us hl => match us, hl with | [_, _], _ => rfl⟩⟩,
      d_least_with := ⟨⟨_, _, Fleast_with, PySem.W.mg_of X G aleast_with, Fleast_with.binds (ps := ["code", "bits"]) fun _ _ _ _ _ _ us hl => match us, hl with | [_, _], _ => rfl⟩⟩,
      d_count_with := ⟨⟨_, _, Fcount_with, PySem.W.mg_of X G acount_with, Fcount_with.binds (ps := ["code", "bits"]) fun _ _ _ _ _ _ us hl => match us, hl with | [_, _], _ => rfl⟩⟩,
      d_starting := ⟨⟨_, _, Fstarting, PySem.W.mg_of X G astarting, Fstarting.binds (ps := ["code", "bits"]) fun _ _ _ _ _ _ us hl => match us, hl with | [_, _], _ => rfl⟩⟩,
      d_how_many := ⟨⟨_, _, Fhow_many, PySem.W.mg_of X G ahow_many, Fhow_many.binds (ps := ["code", "bits"]) fun _ _ _ _ _ _ us hl => match us, hl with | [_, _], _ => rfl⟩⟩,
      d_is_whole_in := ⟨⟨_, _, Fis_whole_in, PySem.W.mg_of X G ais_whole_in, Fis_whole_in.binds (ps := ["code", "bits"]) fun _ _ _ _ _ _ us hl => match us, hl with | [_, _], _ => rfl⟩⟩,
      d_is_dead_in := ⟨⟨_, _, Fis_dead_in, PySem.W.mg_of X G ais_dead_in, Fis_dead_in.binds (ps := ["code", "bits"]) fun _ _ _ _ _ _ us hl => match us, hl with | [_, _], _ => rfl⟩⟩,
      d_dead := ⟨⟨_, _, Fdead, PySem.W.mg_of X G adead, Fdead.binds (ps := ["code", "size"]) fun _ _ _ _ _ _ us hl => match us, hl with | [_, _], _ => rfl⟩⟩,
      d_lowest := ⟨⟨_, _, Flowest, PySem.W.mg_of X G alowest, Flowest.binds (ps := ["top", "bottom"]) fun _ _ _ _ _ _ us hl => match us, hl with | [_, _], _ => rfl⟩⟩,
      d_share := ⟨⟨_, _, Fshare, PySem.W.mg_of X G ashare, Fshare.binds (ps := ["code"]) fun _ _ _ _ _ _ us hl => match us, hl with | [_], _ => rfl⟩⟩,
      d_order := ⟨⟨_, _, Forder, PySem.W.mg_of X G aorder, Forder.binds (ps := ["code"]) fun _ _ _ _ _ _ us hl => match us, hl with | [_], _ => rfl⟩⟩,
      d_growth_of := ⟨⟨_, _, Fgrowth_of, PySem.W.mg_of X G agrowth_of, Fgrowth_of.binds (ps := ["code"]) fun _ _ _ _ _ _ us hl => match us, hl with | [_], _ => rfl⟩⟩,
      d_growth := ⟨⟨_, _, Fgrowth, PySem.W.mg_of X G agrowth, Fgrowth.binds (ps := ["code"]) fun _ _ _ _ _ _ us hl => match us, hl with | [_], _ => rfl⟩⟩,
      d_grows_more := ⟨⟨_, _, Fgrows_more, PySem.W.mg_of X G agrows_more, Fgrows_more.binds (ps := ["one", "other"]) fun _ _ _ _ _ _ us hl => match us, hl with | [_, _], _ => rfl⟩⟩,
      d_turns := ⟨⟨_, _, Fturns, PySem.W.mg_of X G aturns, Fturns.binds (ps := ["code", "most"]) fun _ _ _ _ _ _ us hl => match us, hl with | [_, _], _ => rfl⟩⟩,
      d_differences := ⟨⟨_, _, Fdifferences, PySem.W.mg_of X G adifferences, Fdifferences.binds (ps := ["one", "other", "most"]) fun _ _ _ _ _ _ us hl => match us, hl with | [_, _, _], _ => rfl⟩⟩,
      d_near_number := ⟨⟨_, _, Fnear_number, PySem.W.mg_of X G anear_number, Fnear_number.binds (ps := ["one", "other"]) fun _ _ _ _ _ _ us hl => match us, hl with | [_, _], _ => rfl⟩⟩,
      d_figures := ⟨⟨_, _, Ffigures, PySem.W.mg_of X G afigures, Ffigures.binds (ps := ["number"]) fun _ _ _ _ _ _ us hl => match us, hl with | [_], _ => rfl⟩⟩,
      d_far_number := ⟨⟨_, _, Ffar_number, PySem.W.mg_of X G afar_number, Ffar_number.binds (ps := ["one", "other"]) fun _ _ _ _ _ _ us hl => match us, hl with | [_, _], _ => rfl⟩⟩,
      d_farther := ⟨⟨_, _, Ffarther, PySem.W.mg_of X G afarther, Ffarther.binds (ps := ["one", "other", "most"]) fun _ _ _ _ _ _ us hl => match us, hl with | [_, _, _], _ => rfl⟩⟩,
      d_longer := ⟨⟨_, _, Flonger, PySem.W.mg_of X G alonger, Flonger.binds (ps := ["one", "other"]) fun _ _ _ _ _ _ us hl => match us, hl with | [_, _], _ => rfl⟩⟩,
      d_gap := ⟨⟨_, _, Fgap, PySem.W.mg_of X G agap, Fgap.binds (ps := ["one", "other"]) fun _ _ _ _ _ _ us hl => match us, hl with | [_, _], _ => rfl⟩⟩,
      d_l_begin := ⟨⟨_, _, Fl_begin, PySem.W.mg_of X G al_begin, Fl_begin.binds (ps := ["_law_script"]) fun _ _ _ _ _ _ us hl => match us, hl with | [_], _ => rfl⟩⟩,
      d_l_draw := ⟨⟨_, _, Fl_draw, PySem.W.mg_of X G al_draw, Fl_draw.binds (ps := ["_law_draws", "_law_size"]) fun _ _ _ _ _ _ us hl => match us, hl with | [_, _], _ => rfl⟩⟩,
      d_l_figures := ⟨⟨_, _, Fl_figures, PySem.W.mg_of X G al_figures, Fl_figures.binds (ps := ["_law_n"]) fun _ _ _ _ _ _ us hl => match us, hl with | [_], _ => rfl⟩⟩,
      cl_Code := ⟨pgCode, hdCode, poCode, saCode⟩,
      g_Code := PySem.W.mg_of X G gCode,
      na_Code_rows := naCoderows,
      na_Code_tail := naCodetail,
      na_Code_begin := naCodebegin,
      e_BadCode := ⟨PySem.W.mg_of X G gBadCode, qBadCode, kcBadCode, ebBadCode, etBadCode⟩,
      e_NotFree := ⟨PySem.W.mg_of X G gNotFree, qNotFree, kcNotFree, ebNotFree, etNotFree⟩,
      c_BITS := PySem.W.mg_of X G gBITS,
      k_BITS := fun _ => .tup (xs := [.str "0", .str "1"]) (.inr ⟨_, _, _, lBITS, rfl, rfl, by show 2 ≤ sizeLine; decide, .cons ⟨_, rfl⟩ (.cons ⟨_, rfl⟩ (.nil))⟩) (.cons (.str _) (.cons (.str _) (.nil))),
      c_MOST_ROWS := ⟨_, PySem.W.mg_of X G gMOST_ROWS⟩,
      n_all := PySem.W.mg_none_of X G zall,
      n_any := PySem.W.mg_none_of X G zany,
      n_bool := PySem.W.mg_none_of X G zbool,
      n_int := PySem.W.mg_none_of X G zint,
      n_isinstance := PySem.W.mg_none_of X G zisinstance,
      n_len := PySem.W.mg_none_of X G zlen,
      n_list := PySem.W.mg_none_of X G zlist,
      n_max := PySem.W.mg_none_of X G zmax,
      n_min := PySem.W.mg_none_of X G zmin,
      n_range := PySem.W.mg_none_of X G zrange,
      n_sorted := PySem.W.mg_none_of X G zsorted,
      n_str := PySem.W.mg_none_of X G zstr,
      n_sum := PySem.W.mg_none_of X G zsum,
      n_tuple := PySem.W.mg_none_of X G ztuple }
  exact ⟨_, PySem.W.fnOf "law" "law" (defArgs s_law) (defBody s_law) (defScope s_law) .none kVlaw dclaw pmlaw anlaw cdlaw ctlaw, fun s v => .of_eq rfl, fun base _ _ => ok_law T Flaw⟩
theorem walk {l : PySem.W.OpenLaw} {q : Program} {loose : List Str} {XP : (Str → Option Value) → Heap → Prop} {YP : World → Heap → Prop} {d : DefRec} {K : Params → PySem.W.Frag} (hn : l.most = some 63) (hdf : d.params.defaults = [])
    (hY : ∀ (w : World) (h : Heap), YP w h → (K w.params).In h)
    (F : ∀ (w : World) (mg : Str → Option Value) (fa : Addr) (h : Heap), (K w.params).In h → h.Ns mainGlobals mg → mg d.name = some (.ref fa) →
      ∃ B : Adr, ∃ fd : FuncData, (∀ (s : Shared) (u : Value), BindsTo s fd ⟨[u], []⟩ [("_law_script", u)]) ∧ ∀ base : Heap, (K w.params).In base → base.Ns mainGlobals mg → FnOk l.prog w (K w.params) mg base CX0 9 fa fd ["_law_script"] (sp_law (K w.params) B)) :
    PySem.W.WalkO q loose XP YP l.row.toRowW d [] (fun f vs => PySem.call f vs) :=
  L2.walk_of (n := 63) (k := 9) (x := "_law_script") (CX := fun _ => CX0) (sp := fun w vs H Q E => ∀ B : Adr, sp_law (K w.params) B vs H Q E) hn (by decide) hdf ⟨rfl, by decide, by decide⟩ hY (fun w mg fa h a b c => by
    obtain ⟨B, fd, h1, h2⟩ := F w mg fa h a b c
    exact ⟨fd, h1, fun base x y => (h2 base x y).imp fun vs H Q E z => z B⟩) (fun _ _ a ns hl _ hS B => ⟨a, ns, rfl, hS, hl, fun _ => rfl⟩) fun _ _ _ _ _ z => z
end
end Dl
open PySem PySem.W PyProof.Rows
set_option maxRecDepth 100000 in
set_option maxHeartbeats 0 in
theorem PySem.Challenge.cw_wholecodes_k12_known_codes_holds : PySem.Challenge.rw_wholecodes_k12_known_codes.Holds := by
  w_on; o_law; k_head; (case hw => w_witness2)
  k_fill
  refine Dl.walk (l := PySem.Challenge.rw_wholecodes_k12_known_codes) rfl rfl (fun w h Y => PySem.W.kIn_of Y) ?F
  case F =>
    intro w mg fa h KX G hmg
    refine' Dl.all_mk KX G hmg ?gCode ?pgCode ?hdCode ?poCode ?saCode ?mkCode ?kcCode ?naCoderows ?naCodetail ?naCodebegin ?gBadCode ?qBadCode ?kcBadCode ?ebBadCode ?etBadCode ?gNotFree ?qNotFree ?kcNotFree ?ebNotFree ?etNotFree ?gBITS ?lBITS ?gMOST_ROWS ?ais_whole ?lis_whole ?cis_whole ?kis_whole ?aare_bits ?lare_bits ?care_bits ?kare_bits ?ais_row ?lis_row ?cis_row ?kis_row ?ais_tail ?lis_tail ?cis_tail ?kis_tail ?apower ?lpower ?cpower ?kpower ?arow_at ?lrow_at ?crow_at ?krow_at ?abefore_tail_row ?lbefore_tail_row ?cbefore_tail_row ?kbefore_tail_row ?afirst_number ?lfirst_number ?cfirst_number ?kfirst_number ?atail_row_with ?ltail_row_with ?ctail_row_with ?ktail_row_with ?arow_with ?lrow_with ?crow_with ?krow_with ?aplaces ?lplaces ?cplaces ?kplaces ?abits_of ?lbits_of ?cbits_of ?kbits_of ?asize_of ?lsize_of ?csize_of ?ksize_of ?aCode_init ?iCode_init ?lCode_init ?cCode_init ?kCode_init ?aCode_bits ?iCode_bits ?lCode_bits ?cCode_bits ?kCode_bits ?aCode_size ?iCode_size ?lCode_size ?cCode_size ?kCode_size ?anear_rows ?lnear_rows ?cnear_rows ?knear_rows ?aare_unfree ?lare_unfree ?care_unfree ?kare_unfree ?ais_free ?lis_free ?cis_free ?kis_free ?acheck_free ?lcheck_free ?ccheck_free ?kcheck_free ?aclash ?lclash ?cclash ?kclash ?aleast_clash ?lleast_clash ?cleast_clash ?kleast_clash ?aleast_other ?lleast_other ?cleast_other ?kleast_other ?aleast_in_row ?lleast_in_row ?cleast_in_row ?kleast_in_row ?anumber_of ?lnumber_of ?cnumber_of ?knumber_of ?awithin_row ?lwithin_row ?cwithin_row ?kwithin_row ?afar_row ?lfar_row ?cfar_row ?kfar_row ?arows_with ?lrows_with ?crows_with ?krows_with ?aleast_with ?lleast_with ?cleast_with ?kleast_with ?acount_with ?lcount_with ?ccount_with ?kcount_with ?astarting ?lstarting ?cstarting ?kstarting ?ahow_many ?lhow_many ?chow_many ?khow_many ?ais_whole_in ?lis_whole_in ?cis_whole_in ?kis_whole_in ?ais_dead_in ?lis_dead_in ?cis_dead_in ?kis_dead_in ?adead ?ldead ?cdead ?kdead ?alowest ?llowest ?clowest ?klowest ?ashare ?lshare ?cshare ?kshare ?aorder ?lorder ?corder ?korder ?agrowth_of ?lgrowth_of ?cgrowth_of ?kgrowth_of ?agrowth ?lgrowth ?cgrowth ?kgrowth ?agrows_more ?lgrows_more ?cgrows_more ?kgrows_more ?aturns ?lturns ?cturns ?kturns ?adifferences ?ldifferences ?cdifferences ?kdifferences ?anear_number ?lnear_number ?cnear_number ?knear_number ?afigures ?lfigures ?cfigures ?kfigures ?afar_number ?lfar_number ?cfar_number ?kfar_number ?afarther ?lfarther ?cfarther ?kfarther ?alonger ?llonger ?clonger ?klonger ?agap ?lgap ?cgap ?kgap ?al_begin ?ll_begin ?cl_begin ?kl_begin ?al_draw ?ll_draw ?cl_draw ?kl_draw ?al_figures ?ll_figures ?cl_figures ?kl_figures ?alaw ?llaw ?claw ?klaw ?zall ?zany ?zbool ?zint ?zisinstance ?zlen ?zlist ?zmax ?zmin ?zrange ?zsorted ?zstr ?zsum ?ztuple
    (case gCode => k_is)
    (case pgCode => k_is)
    (case hdCode => k_is)
    (case poCode => k_is)
    (case saCode => k_is)
    (case mkCode => k_is)
    (case kcCode => k_is)
    (case naCoderows => k_is)
    (case naCodetail => k_is)
    (case naCodebegin => k_is)
    (case gBadCode => k_is)
    (case qBadCode => k_exc)
    (case kcBadCode => k_is)
    (case ebBadCode => k_is)
    (case etBadCode => k_is)
    (case gNotFree => k_is)
    (case qNotFree => k_exc)
    (case kcNotFree => k_is)
    (case ebNotFree => k_is)
    (case etNotFree => k_is)
    (case gBITS => k_is)
    (case lBITS => k_is)
    (case gMOST_ROWS => k_is)
    (case ais_whole => k_is)
    (case lis_whole => k_is)
    (case cis_whole => k_is)
    (case kis_whole => k_is)
    (case aare_bits => k_is)
    (case lare_bits => k_is)
    (case care_bits => k_is)
    (case kare_bits => k_is)
    (case ais_row => k_is)
    (case lis_row => k_is)
    (case cis_row => k_is)
    (case kis_row => k_is)
    (case ais_tail => k_is)
    (case lis_tail => k_is)
    (case cis_tail => k_is)
    (case kis_tail => k_is)
    (case apower => k_is)
    (case lpower => k_is)
    (case cpower => k_is)
    (case kpower => k_is)
    (case arow_at => k_is)
    (case lrow_at => k_is)
    (case crow_at => k_is)
    (case krow_at => k_is)
    (case abefore_tail_row => k_is)
    (case lbefore_tail_row => k_is)
    (case cbefore_tail_row => k_is)
    (case kbefore_tail_row => k_is)
    (case afirst_number => k_is)
    (case lfirst_number => k_is)
    (case cfirst_number => k_is)
    (case kfirst_number => k_is)
    (case atail_row_with => k_is)
    (case ltail_row_with => k_is)
    (case ctail_row_with => k_is)
    (case ktail_row_with => k_is)
    (case arow_with => k_is)
    (case lrow_with => k_is)
    (case crow_with => k_is)
    (case krow_with => k_is)
    (case aplaces => k_is)
    (case lplaces => k_is)
    (case cplaces => k_is)
    (case kplaces => k_is)
    (case abits_of => k_is)
    (case lbits_of => k_is)
    (case cbits_of => k_is)
    (case kbits_of => k_is)
    (case asize_of => k_is)
    (case lsize_of => k_is)
    (case csize_of => k_is)
    (case ksize_of => k_is)
    (case aCode_init => k_is)
    (case iCode_init => k_is)
    (case lCode_init => k_is)
    (case cCode_init => k_is)
    (case kCode_init => k_is)
    (case aCode_bits => k_is)
    (case iCode_bits => k_is)
    (case lCode_bits => k_is)
    (case cCode_bits => k_is)
    (case kCode_bits => k_is)
    (case aCode_size => k_is)
    (case iCode_size => k_is)
    (case lCode_size => k_is)
    (case cCode_size => k_is)
    (case kCode_size => k_is)
    (case anear_rows => k_is)
    (case lnear_rows => k_is)
    (case cnear_rows => k_is)
    (case knear_rows => k_is)
    (case aare_unfree => k_is)
    (case lare_unfree => k_is)
    (case care_unfree => k_is)
    (case kare_unfree => k_is)
    (case ais_free => k_is)
    (case lis_free => k_is)
    (case cis_free => k_is)
    (case kis_free => k_is)
    (case acheck_free => k_is)
    (case lcheck_free => k_is)
    (case ccheck_free => k_is)
    (case kcheck_free => k_is)
    (case aclash => k_is)
    (case lclash => k_is)
    (case cclash => k_is)
    (case kclash => k_is)
    (case aleast_clash => k_is)
    (case lleast_clash => k_is)
    (case cleast_clash => k_is)
    (case kleast_clash => k_is)
    (case aleast_other => k_is)
    (case lleast_other => k_is)
    (case cleast_other => k_is)
    (case kleast_other => k_is)
    (case aleast_in_row => k_is)
    (case lleast_in_row => k_is)
    (case cleast_in_row => k_is)
    (case kleast_in_row => k_is)
    (case anumber_of => k_is)
    (case lnumber_of => k_is)
    (case cnumber_of => k_is)
    (case knumber_of => k_is)
    (case awithin_row => k_is)
    (case lwithin_row => k_is)
    (case cwithin_row => k_is)
    (case kwithin_row => k_is)
    (case afar_row => k_is)
    (case lfar_row => k_is)
    (case cfar_row => k_is)
    (case kfar_row => k_is)
    (case arows_with => k_is)
    (case lrows_with => k_is)
    (case crows_with => k_is)
    (case krows_with => k_is)
    (case aleast_with => k_is)
    (case lleast_with => k_is)
    (case cleast_with => k_is)
    (case kleast_with => k_is)
    (case acount_with => k_is)
    (case lcount_with => k_is)
    (case ccount_with => k_is)
    (case kcount_with => k_is)
    (case astarting => k_is)
    (case lstarting => k_is)
    (case cstarting => k_is)
    (case kstarting => k_is)
    (case ahow_many => k_is)
    (case lhow_many => k_is)
    (case chow_many => k_is)
    (case khow_many => k_is)
    (case ais_whole_in => k_is)
    (case lis_whole_in => k_is)
    (case cis_whole_in => k_is)
    (case kis_whole_in => k_is)
    (case ais_dead_in => k_is)
    (case lis_dead_in => k_is)
    (case cis_dead_in => k_is)
    (case kis_dead_in => k_is)
    (case adead => k_is)
    (case ldead => k_is)
    (case cdead => k_is)
    (case kdead => k_is)
    (case alowest => k_is)
    (case llowest => k_is)
    (case clowest => k_is)
    (case klowest => k_is)
    (case ashare => k_is)
    (case lshare => k_is)
    (case cshare => k_is)
    (case kshare => k_is)
    (case aorder => k_is)
    (case lorder => k_is)
    (case corder => k_is)
    (case korder => k_is)
    (case agrowth_of => k_is)
    (case lgrowth_of => k_is)
    (case cgrowth_of => k_is)
    (case kgrowth_of => k_is)
    (case agrowth => k_is)
    (case lgrowth => k_is)
    (case cgrowth => k_is)
    (case kgrowth => k_is)
    (case agrows_more => k_is)
    (case lgrows_more => k_is)
    (case cgrows_more => k_is)
    (case kgrows_more => k_is)
    (case aturns => k_is)
    (case lturns => k_is)
    (case cturns => k_is)
    (case kturns => k_is)
    (case adifferences => k_is)
    (case ldifferences => k_is)
    (case cdifferences => k_is)
    (case kdifferences => k_is)
    (case anear_number => k_is)
    (case lnear_number => k_is)
    (case cnear_number => k_is)
    (case knear_number => k_is)
    (case afigures => k_is)
    (case lfigures => k_is)
    (case cfigures => k_is)
    (case kfigures => k_is)
    (case afar_number => k_is)
    (case lfar_number => k_is)
    (case cfar_number => k_is)
    (case kfar_number => k_is)
    (case afarther => k_is)
    (case lfarther => k_is)
    (case cfarther => k_is)
    (case kfarther => k_is)
    (case alonger => k_is)
    (case llonger => k_is)
    (case clonger => k_is)
    (case klonger => k_is)
    (case agap => k_is)
    (case lgap => k_is)
    (case cgap => k_is)
    (case kgap => k_is)
    (case al_begin => k_is)
    (case ll_begin => k_is)
    (case cl_begin => k_is)
    (case kl_begin => k_is)
    (case al_draw => k_is)
    (case ll_draw => k_is)
    (case cl_draw => k_is)
    (case kl_draw => k_is)
    (case al_figures => k_is)
    (case ll_figures => k_is)
    (case cl_figures => k_is)
    (case kl_figures => k_is)
    (case alaw => k_is)
    (case llaw => k_is)
    (case claw => k_is)
    (case klaw => k_is)
    (case zall => k_is)
    (case zany => k_is)
    (case zbool => k_is)
    (case zint => k_is)
    (case zisinstance => k_is)
    (case zlen => k_is)
    (case zlist => k_is)
    (case zmax => k_is)
    (case zmin => k_is)
    (case zrange => k_is)
    (case zsorted => k_is)
    (case zstr => k_is)
    (case zsum => k_is)
    (case ztuple => k_is)


