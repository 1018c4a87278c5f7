import PyProof.Rows.All
import Wide.All
import OpenK.AllK
import Wide.FinOn
import HandS.ForMost
import HandS.ForExc
import HandS.Zip
import HandS.SetKeys
import HandS.TupLen
import HandS.TupLe
import HandS.TupAny
import HandS.Style
import KE.KDictKeyed
import KE.KDictZip
import KE.KDictDisplayH
import HandS.Rev
import KE.GoesEnum
import HandS.Conv
import HandS.RevRange
import HandS.CallRecv
import HandS.IsInst
import HandS.More
import HandS.Text
import HandS.TryOnly
import PySem.Challenge.RW_leatwork_k03_whole_equal_trees
set_option Elab.async false
set_option linter.all false
namespace Lw
theorem length_le_of_nodup {A : Type} [DecidableEq A] : ∀ {l m : List A}, l.Nodup → (∀ x ∈ l, x ∈ m) → l.length ≤ m.length
  | [], _, _, _ => Nat.zero_le _
  | a :: l, m, h, s => by
    have ha : a ∈ m := s a List.mem_cons_self
    have hl : l.Nodup := (List.nodup_cons.mp h).2
    have hn : a ∉ l := (List.nodup_cons.mp h).1
    have ih := length_le_of_nodup (l := l) (m := m.erase a) hl (fun x hx => by
      have hxa : x ≠ a := fun e => hn (e ▸ hx)
      exact (List.mem_erase_of_ne hxa).mpr (s x (List.mem_cons_of_mem _ hx)))
    have e := List.length_erase_of_mem ha
    have p : 0 < m.length := List.length_pos_of_mem ha
    rw [List.length_cons]; omega
theorem mem_of_full {l : List Nat} {n : Nat} (h : l.Nodup) (hl : l.length = n) (hb : ∀ x ∈ l, x < n) : ∀ i, i < n → i ∈ l := fun i hi => by
  refine Decidable.byContradiction fun hn => ?_
  have h1 : (i :: l).length ≤ (List.range n).length := length_le_of_nodup (List.nodup_cons.mpr ⟨hn, h⟩) (fun x hx => by
    rcases List.mem_cons.mp hx with e | hx
    · rw [e]; exact List.mem_range.mpr hi
    · exact List.mem_range.mpr (hb x hx))
  rw [List.length_cons, List.length_range] at h1
  omega
section
variable {α : Type}
inductive Nd (α : Type) where
  | var (n : Int)
  | int (n : Int)
  | atom (s : α)
  | name (s : α) (n : Int)
  | tup (s : α) (ps : List Nat)
inductive Hd (α : Type) where
  | var (n : Int)
  | int (n : Int)
  | atom (s : α)
  | name (s : α) (n : Int)
  | tup (s : α) (k : Nat)
def Nd.hd : Nd α → Hd α
  | .var n => .var n
  | .int n => .int n
  | .atom s => .atom s
  | .name s n => .name s n
  | .tup s ps => .tup s ps.length
def Nd.parts : Nd α → List Nat
  | .tup _ ps => ps
  | _ => []
def Nd.mapP (f : Nat → Nat) : Nd α → Nd α
  | .tup s ps => .tup s (ps.map f)
  | x => x
def Nd.Rel (R : Nat → Nat → Prop) : Nd α → Nd α → Prop
  | .tup s ps, b => ∃ qs, b = .tup s qs ∧ qs.length = ps.length ∧ ∀ (k p q : Nat), ps[k]? = some p → qs[k]? = some q → R p q
  | a, b => b = a
theorem hd_len {a b : Nd α} (h : a.hd = b.hd) : a.parts.length = b.parts.length := by
  cases a <;> cases b <;> simp_all [Nd.hd, Nd.parts]
theorem hd_mapP (f : Nat → Nat) (a : Nd α) : (a.mapP f).hd = a.hd := by
  cases a <;> simp [Nd.hd, Nd.mapP]
theorem parts_mapP (f : Nat → Nat) (a : Nd α) : (a.mapP f).parts = a.parts.map f := by
  cases a <;> simp [Nd.parts, Nd.mapP]
theorem nd_ext {a b : Nd α} (h : a.hd = b.hd) (hp : a.parts = b.parts) : a = b := by
  cases a <;> cases b <;> simp_all [Nd.hd, Nd.parts]
theorem Nd.Rel.hd {R : Nat → Nat → Prop} {a b : Nd α} (h : a.Rel R b) : a.hd = b.hd := by
  cases a with
  | tup s ps => obtain ⟨qs, rfl, e, _⟩ := h; simp [Nd.hd, e]
  | _ => have e : b = _ := h; rw [e]
theorem Nd.Rel.parts {R : Nat → Nat → Prop} {a b : Nd α} (h : a.Rel R b) : ∀ (k p q : Nat), a.parts[k]? = some p → b.parts[k]? = some q → R p q := by
  cases a with
  | tup s ps => obtain ⟨qs, rfl, e, r⟩ := h; exact r
  | _ => intro k p q hp; simp [Nd.parts] at hp
def at_ (G : List (Nd α)) (i : Nat) : Nd α := G.getD i (.var 0)
theorem at_get {G : List (Nd α)} {i : Nat} {x : Nd α} (h : G[i]? = some x) : at_ G i = x := by
  unfold at_; rw [List.getD_eq_getElem?_getD, h]; rfl
theorem get_at {G : List (Nd α)} {i : Nat} (h : i < G.length) : G[i]? = some (at_ G i) := by
  rw [List.getElem?_eq_getElem h]
  congr 1
  exact (at_get (List.getElem?_eq_getElem h)).symm
structure Ok (G : List (Nd α)) : Prop where
  pos : 0 < G.length
  parts : ∀ i, i < G.length → ∀ p ∈ (at_ G i).parts, p < G.length
def IsBis (G H : List (Nd α)) (R : Nat → Nat → Prop) : Prop :=
  ∀ i j, R i j → (at_ G i).hd = (at_ H j).hd ∧ ∀ (k p q : Nat), (at_ G i).parts[k]? = some p → (at_ H j).parts[k]? = some q → R p q
def Bis (G H : List (Nd α)) (i j : Nat) : Prop := ∃ R, IsBis G H R ∧ R i j
theorem Bis.hd {G H : List (Nd α)} {i j : Nat} (b : Bis G H i j) : (at_ G i).hd = (at_ H j).hd := let ⟨_, h, r⟩ := b; (h i j r).1
theorem Bis.part {G H : List (Nd α)} {i j : Nat} (b : Bis G H i j) {k p q : Nat} (hp : (at_ G i).parts[k]? = some p) (hq : (at_ H j).parts[k]? = some q) : Bis G H p q :=
  let ⟨R, h, r⟩ := b; ⟨R, h, (h i j r).2 k p q hp hq⟩
theorem Bis.refl (G : List (Nd α)) (i : Nat) : Bis G G i i :=
  ⟨fun i j => i = j, fun i j e => ⟨by rw [e], fun k p q hp hq => by subst e; rw [hp] at hq; exact Option.some.inj hq⟩, rfl⟩
theorem Bis.symm {G H : List (Nd α)} {i j : Nat} (b : Bis G H i j) : Bis H G j i :=
  let ⟨R, h, r⟩ := b; ⟨fun i j => R j i, fun i j q => ⟨(h j i q).1.symm, fun k p q' hp hq => (h j i q).2 k q' p hq hp⟩, r⟩
theorem Bis.trans {G H K : List (Nd α)} {i j k : Nat} (b : Bis G H i j) (c : Bis H K j k) : Bis G K i k := by
  refine ⟨fun i k => ∃ j, Bis G H i j ∧ Bis H K j k, fun i k ⟨j, b, c⟩ => ⟨b.hd.trans c.hd, fun m p q hp hq => ?_⟩, j, b, c⟩
  have hl := hd_len b.hd
  have hm : m < (at_ G i).parts.length := (List.getElem?_eq_some_iff.mp hp).1
  have hr : (at_ H j).parts[m]? = some ((at_ H j).parts[m]'(by omega)) := List.getElem?_eq_getElem (by omega)
  exact ⟨_, b.part hp hr, c.part hr hq⟩
def fresh (f : Nat → Int) (i : Nat) : Bool := (List.range i).all fun j => f j != f i
theorem fresh_iff {f : Nat → Int} {i : Nat} : fresh f i = true ↔ ∀ j, j < i → f j ≠ f i := by
  unfold fresh
  rw [List.all_eq_true]
  constructor
  · intro h j hj e
    have := h j (List.mem_range.mpr hj)
    simp [e] at this
  · intro h j hj
    simpa using h j (List.mem_range.mp hj)
def dc (f : Nat → Int) (n : Nat) : Nat := ((List.range n).filter (fresh f)).length
theorem dc_le (f : Nat → Int) (n : Nat) : dc f n ≤ n := by
  unfold dc
  exact Nat.le_trans (List.length_filter_le _ _) (by simp)
theorem dc_succ (f : Nat → Int) (n : Nat) : dc f (n + 1) = dc f n + if fresh f n then 1 else 0 := by
  unfold dc
  rw [List.range_succ, List.filter_append, List.length_append]
  congr 1
  rw [List.filter_cons]
  split <;> simp
theorem dc_pos (f : Nat → Int) {n : Nat} (h : 0 < n) : 0 < dc f n := by
  induction n with
  | zero => omega
  | succ n ih =>
    rw [dc_succ]
    by_cases hn : 0 < n
    · have := ih hn; omega
    · have e : n = 0 := by omega
      subst e
      have : fresh f 0 = true := fresh_iff.mpr (fun j hj => by omega)
      rw [this]; simp
theorem dc_mono {f g : Nat → Int} {n : Nat} (h : ∀ i j, i < n → j < n → g i = g j → f i = f j) : dc f n ≤ dc g n ∧ (dc g n ≤ dc f n → ∀ i, i < n → (fresh f i = fresh g i)) := by
  induction n with
  | zero => exact ⟨Nat.le_refl _, fun _ i hi => by omega⟩
  | succ n ih =>
    obtain ⟨h1, h2⟩ := ih (fun i j hi hj => h i j (by omega) (by omega))
    have imp : fresh f n = true → fresh g n = true := fun hf => fresh_iff.mpr fun j hj e => fresh_iff.mp hf j hj (h j n (by omega) (by omega) e)
    rw [dc_succ, dc_succ]
    cases hf : fresh f n with
    | true =>
      have hg := imp hf
      rw [hg]
      refine ⟨by simp; exact h1, fun hle i hi => ?_⟩
      by_cases e : i = n
      · rw [e, hf, hg]
      · exact h2 (by simp at hle; exact hle) i (by omega)
    | false =>
      cases hg : fresh g n with
      | true =>
        refine ⟨by simp; omega, fun hle => ?_⟩
        simp at hle; omega
      | false =>
        refine ⟨by simpa using h1, fun hle i hi => ?_⟩
        by_cases e : i = n
        · rw [e, hf, hg]
        · exact h2 (by simpa using hle) i (by omega)
theorem first_of (f : Nat → Int) : ∀ n, ∃ m, m ≤ n ∧ f m = f n ∧ fresh f m = true := by
  intro n
  induction n using Nat.strongRecOn with
  | _ n ih =>
    cases h : fresh f n with
    | true => exact ⟨n, Nat.le_refl _, rfl, h⟩
    | false =>
      have : ∃ j, j < n ∧ f j = f n := by
        refine Decidable.byContradiction fun hn => ?_
        have : fresh f n = true := fresh_iff.mpr fun j hj e => hn ⟨j, hj, e⟩
        rw [h] at this; cases this
      obtain ⟨j, hj, e⟩ := this
      obtain ⟨m, hm, em, fm⟩ := ih j hj
      exact ⟨m, by omega, em.trans e, fm⟩
theorem fresh_inj {f : Nat → Int} {i j : Nat} (hi : fresh f i = true) (hj : fresh f j = true) (e : f i = f j) : i = j := by
  rcases Nat.lt_trichotomy i j with h | h | h
  · exact absurd e (fresh_iff.mp hj i h)
  · exact h
  · exact absurd e.symm (fresh_iff.mp hi j h)
theorem same_part {f g : Nat → Int} {n : Nat} (h : ∀ i j, i < n → j < n → g i = g j → f i = f j) (hd : dc g n ≤ dc f n) {i j : Nat} (hi : i < n) (hj : j < n) (e : f i = f j) : g i = g j := by
  have hfr := (dc_mono h).2 hd
  obtain ⟨a, ha, ea, fa⟩ := first_of g i
  obtain ⟨b, hb, eb, fb⟩ := first_of g j
  have fa' : fresh f a = true := (hfr a (by omega)).trans fa
  have fb' : fresh f b = true := (hfr b (by omega)).trans fb
  have e1 : f a = f i := h a i (by omega) hi ea
  have e2 : f b = f j := h b j (by omega) hj eb
  have := fresh_inj fa' fb' (e1.trans (e.trans e2.symm))
  rw [← ea, ← eb, this]
def Kinds (G : List (Nd α)) (ks : Nat → Int) : Prop := ∀ i j, i < G.length → j < G.length → (ks i = ks j ↔ Bis G G i j)
structure CInv (G : List (Nd α)) (f : Nat → Int) (count : Nat) : Prop where
  sound : ∀ i j, i < G.length → j < G.length → Bis G G i j → f i = f j
  head : ∀ i j, i < G.length → j < G.length → f i = f j → (at_ G i).hd = (at_ G j).hd
  prev : count = 0 ∨ ∃ g : Nat → Int, count = dc g G.length ∧ ∀ i j, i < G.length → j < G.length → (f i = f j ↔ g i = g j ∧ (at_ G i).parts.map g = (at_ G j).parts.map g)
theorem CInv.start {G : List (Nd α)} {f : Nat → Int} (h : ∀ i j, i < G.length → j < G.length → (f i = f j ↔ (at_ G i).hd = (at_ G j).hd)) : CInv G f 0 :=
  ⟨fun i j hi hj b => (h i j hi hj).mpr b.hd, fun i j hi hj e => (h i j hi hj).mp e, .inl rfl⟩
theorem bis_parts {G : List (Nd α)} (ok : Ok G) {f : Nat → Int} (sound : ∀ i j, i < G.length → j < G.length → Bis G G i j → f i = f j) {i j : Nat} (hi : i < G.length) (hj : j < G.length) (b : Bis G G i j) :
    (at_ G i).parts.map f = (at_ G j).parts.map f := by
  have hl := hd_len b.hd
  refine List.ext_getElem (by simp [hl]) fun k h1 h2 => ?_
  rw [List.getElem_map, List.getElem_map]
  rw [List.length_map] at h1 h2
  refine sound _ _ (ok.parts i hi _ (List.getElem_mem h1)) (ok.parts j hj _ (List.getElem_mem h2)) (b.part (List.getElem?_eq_getElem h1) (List.getElem?_eq_getElem h2))
theorem CInv.next {G : List (Nd α)} (ok : Ok G) {f g : Nat → Int} {c : Nat} (I : CInv G f c)
    (h : ∀ i j, i < G.length → j < G.length → (g i = g j ↔ f i = f j ∧ (at_ G i).parts.map f = (at_ G j).parts.map f)) : CInv G g (dc f G.length) :=
  ⟨fun i j hi hj b => (h i j hi hj).mpr ⟨I.sound i j hi hj b, bis_parts ok I.sound hi hj b⟩, fun i j hi hj e => I.head i j hi hj ((h i j hi hj).mp e).1, .inr ⟨f, rfl, h⟩⟩
theorem CInv.stop {G : List (Nd α)} (ok : Ok G) {f : Nat → Int} {c : Nat} (I : CInv G f c) (hs : dc f G.length ≤ c) : Kinds G f := by
  intro i j hi hj
  refine ⟨fun e => ?_, I.sound i j hi hj⟩
  have hp := dc_pos f ok.pos
  rcases I.prev with h0 | ⟨g, hc, hg⟩
  · omega
  · have ref : ∀ i j, i < G.length → j < G.length → f i = f j → g i = g j := fun i j hi hj e => ((hg i j hi hj).mp e).1
    have same : ∀ {i j}, i < G.length → j < G.length → g i = g j → f i = f j := fun {i j} hi hj e => same_part ref (by omega) hi hj e
    refine ⟨fun i j => i < G.length ∧ j < G.length ∧ f i = f j, fun i j ⟨hi, hj, e⟩ => ⟨I.head i j hi hj e, fun k p q hp hq => ?_⟩, hi, hj, e⟩
    have pi : p < G.length := ok.parts i hi p (List.mem_of_getElem? hp)
    have qj : q < G.length := ok.parts j hj q (List.mem_of_getElem? hq)
    refine ⟨pi, qj, same pi qj ?_⟩
    have e2 := ((hg i j hi hj).mp e).2
    have e3 : ((at_ G i).parts.map g)[k]? = ((at_ G j).parts.map g)[k]? := by rw [e2]
    rw [List.getElem?_map, List.getElem?_map, hp, hq] at e3
    exact Option.some.inj e3
inductive LRun (G : List (Nd α)) (ks : Nat → Int) : List Nat → List Nat → List Nat → Prop
  | done (F : List Nat) : LRun G ks F [] F
  | skip {F W R : List Nat} {a : Nat} (h : ∃ f ∈ F, ks f = ks a) (r : LRun G ks F W R) : LRun G ks F (a :: W) R
  | new {F W R : List Nat} {a : Nat} (h : ∀ f ∈ F, ks f ≠ ks a) (r : LRun G ks (F ++ [a]) ((at_ G a).parts ++ W) R) : LRun G ks F (a :: W) R
def ix (ks : Nat → Int) (F : List Nat) (k : Int) : Nat := F.findIdx fun f => ks f == k
def lst (G : List (Nd α)) (ks : Nat → Int) (F : List Nat) : List (Nd α) := F.map fun a => (at_ G a).mapP fun p => ix ks F (ks p)
def Least (G L : List (Nd α)) : Prop := ∃ ks F, Kinds G ks ∧ LRun G ks [] [0] F ∧ L = lst G ks F
theorem ix_lt {ks : Nat → Int} {F : List Nat} {k : Int} (h : ∃ f ∈ F, ks f = k) : ix ks F k < F.length := by
  unfold ix
  obtain ⟨f, hf, e⟩ := h
  exact List.findIdx_lt_length_of_exists ⟨f, hf, by simp [e]⟩
theorem ix_kind {ks : Nat → Int} {F : List Nat} {k : Int} {f : Nat} (h : F[ix ks F k]? = some f) : ks f = k := by
  obtain ⟨hl, e⟩ := List.getElem?_eq_some_iff.mp h
  have := List.findIdx_getElem (xs := F) (p := fun f => ks f == k) (w := hl)
  have e' : F[F.findIdx fun f => ks f == k] = f := e
  rw [e'] at this
  simpa using this
structure FInv (G : List (Nd α)) (ks : Nat → Int) (F W : List Nat) : Prop where
  lt : ∀ f ∈ F, f < G.length
  ltW : ∀ a ∈ W, a < G.length
  nd : (F.map ks).Nodup
  cov : ∀ f ∈ F, ∀ p ∈ (at_ G f).parts, (∃ f' ∈ F, ks f' = ks p) ∨ p ∈ W
  root : F[0]? = some 0 ∨ (F = [] ∧ ∃ W', W = 0 :: W')
theorem FInv.start {G : List (Nd α)} (ok : Ok G) (ks : Nat → Int) : FInv G ks [] [0] :=
  ⟨(fun _ h => nomatch h), (fun a h => by simp at h; rw [h]; exact ok.pos), List.nodup_nil, (fun _ h => nomatch h), .inr ⟨rfl, [], rfl⟩⟩
theorem FInv.skip {G : List (Nd α)} {ks : Nat → Int} {F W : List Nat} {a : Nat} (I : FInv G ks F (a :: W)) (h : ∃ f ∈ F, ks f = ks a) : FInv G ks F W := by
  refine ⟨I.lt, fun x hx => I.ltW x (List.mem_cons_of_mem _ hx), I.nd, fun f hf p hp => ?_, ?_⟩
  · rcases I.cov f hf p hp with z | z
    · exact .inl z
    · rcases List.mem_cons.mp z with e | z
      · subst e; exact .inl h
      · exact .inr z
  · rcases I.root with z | ⟨z, _⟩
    · exact .inl z
    · subst z; obtain ⟨f, hf, _⟩ := h; exact nomatch hf
theorem FInv.new {G : List (Nd α)} (ok : Ok G) {ks : Nat → Int} {F W : List Nat} {a : Nat} (I : FInv G ks F (a :: W)) (h : ∀ f ∈ F, ks f ≠ ks a) : FInv G ks (F ++ [a]) ((at_ G a).parts ++ W) := by
  have ha := I.ltW a List.mem_cons_self
  refine ⟨fun f hf => ?_, fun x hx => ?_, ?_, fun f hf p hp => ?_, ?_⟩
  · rcases List.mem_append.mp hf with hf | hf
    · exact I.lt f hf
    · simp at hf; rw [hf]; exact ha
  · rcases List.mem_append.mp hx with hx | hx
    · exact ok.parts a ha x hx
    · exact I.ltW x (List.mem_cons_of_mem _ hx)
  · rw [List.map_append]
    refine List.nodup_append.mpr ⟨I.nd, by simp, fun x hx y hy => ?_⟩
    obtain ⟨f, hf, e⟩ := List.mem_map.mp hx
    simp at hy
    rw [← e, hy]
    exact h f hf
  · rcases List.mem_append.mp hf with hf | hf
    · rcases I.cov f hf p hp with ⟨f', hf', e⟩ | z
      · exact .inl ⟨f', List.mem_append_left _ hf', e⟩
      · rcases List.mem_cons.mp z with e | z
        · subst e; exact .inl ⟨p, by simp, rfl⟩
        · exact .inr (List.mem_append_right _ z)
    · simp at hf; subst hf; exact .inr (List.mem_append_left _ hp)
  · rcases I.root with z | ⟨z, W', e⟩
    · left
      rw [List.getElem?_append_left (List.getElem?_eq_some_iff.mp z).1]
      exact z
    · subst z; injection e with e1 _; subst e1; exact .inl rfl
theorem LRun.inv {G : List (Nd α)} (ok : Ok G) {ks : Nat → Int} {F W R : List Nat} (r : LRun G ks F W R) (I : FInv G ks F W) : FInv G ks R [] := by
  induction r with
  | done F => exact I
  | skip h _ ih => exact ih (I.skip h)
  | new h _ ih => exact ih (I.new ok h)
theorem FInv.le {G : List (Nd α)} {ks : Nat → Int} {F W : List Nat} (I : FInv G ks F W) : F.length ≤ G.length := by
  have hn : F.Nodup := by
    have := I.nd
    rw [List.nodup_iff_pairwise_ne, List.pairwise_map] at this
    exact this.imp fun h e => h (by rw [e])
  have := length_le_of_nodup (m := List.range G.length) hn fun x hx => List.mem_range.mpr (I.lt x hx)
  simpa using this
def BisL (G H : List (Nd α)) (F F' : List Nat) : Prop := F.length = F'.length ∧ ∀ (k i j : Nat), F[k]? = some i → F'[k]? = some j → Bis G H i j
theorem BisL.nil {G H : List (Nd α)} : BisL G H [] [] := ⟨rfl, fun k i j h => by simp at h⟩
theorem BisL.cons {G H : List (Nd α)} {a b : Nat} {F F' : List Nat} (h : Bis G H a b) (t : BisL G H F F') : BisL G H (a :: F) (b :: F') := by
  refine ⟨by simp [t.1], fun k i j h1 h2 => ?_⟩
  cases k with
  | zero => simp at h1 h2; subst h1 h2; exact h
  | succ k => exact t.2 k i j (by simpa using h1) (by simpa using h2)
theorem BisL.append {G H : List (Nd α)} {E E' F F' : List Nat} (h : BisL G H E E') (t : BisL G H F F') : BisL G H (E ++ F) (E' ++ F') := by
  refine ⟨by simp [h.1, t.1], fun k i j h1 h2 => ?_⟩
  by_cases hk : k < E.length
  · rw [List.getElem?_append_left hk] at h1
    rw [List.getElem?_append_left (by rw [← h.1]; exact hk)] at h2
    exact h.2 k i j h1 h2
  · rw [List.getElem?_append_right (by omega)] at h1
    rw [List.getElem?_append_right (by rw [← h.1]; omega), ← h.1] at h2
    exact t.2 _ i j h1 h2
theorem BisL.uncons {G H : List (Nd α)} {a b : Nat} {F F' : List Nat} (h : BisL G H (a :: F) (b :: F')) : Bis G H a b ∧ BisL G H F F' :=
  ⟨h.2 0 a b rfl rfl, by have := h.1; simpa using this, fun k i j h1 h2 => h.2 (k + 1) i j (by simpa using h1) (by simpa using h2)⟩
theorem BisL.parts {G H : List (Nd α)} {a b : Nat} (h : Bis G H a b) : BisL G H (at_ G a).parts (at_ H b).parts := ⟨hd_len h.hd, fun k i j h1 h2 => h.part h1 h2⟩
theorem kinds_alike {G H : List (Nd α)} {ks hs : Nat → Int} (kG : Kinds G ks) (kH : Kinds H hs) {f a f' a' : Nat} (hf : f < G.length) (ha : a < G.length) (hf' : f' < H.length) (ha' : a' < H.length)
    (bf : Bis G H f f') (ba : Bis G H a a') : ks f = ks a ↔ hs f' = hs a' := by
  rw [kG f a hf ha, kH f' a' hf' ha']
  exact ⟨fun b => (bf.symm.trans b).trans ba, fun b => (bf.trans b).trans ba.symm⟩
theorem met_alike {G H : List (Nd α)} {ks hs : Nat → Int} (kG : Kinds G ks) (kH : Kinds H hs) {F F' : List Nat} {a a' : Nat} (hF : ∀ f ∈ F, f < G.length) (hF' : ∀ f ∈ F', f < H.length) (ha : a < G.length) (ha' : a' < H.length)
    (bF : BisL G H F F') (ba : Bis G H a a') : (∃ f ∈ F, ks f = ks a) → ∃ f ∈ F', hs f = hs a' := fun ⟨f, hf, e⟩ => by
  obtain ⟨k, hk, ek⟩ := List.getElem_of_mem hf
  have hk' : k < F'.length := by rw [← bF.1]; exact hk
  have b := bF.2 k f F'[k] (by rw [← ek]; exact List.getElem?_eq_getElem hk) (List.getElem?_eq_getElem hk')
  exact ⟨F'[k], List.getElem_mem hk', (kinds_alike kG kH (hF f hf) ha (hF' _ (List.getElem_mem hk')) ha' b ba).mp e⟩
theorem BisL.symm {G H : List (Nd α)} {F F' : List Nat} (h : BisL G H F F') : BisL H G F' F := ⟨h.1.symm, fun k i j h1 h2 => (h.2 k j i h2 h1).symm⟩
theorem runs_alike {G H : List (Nd α)} (okG : Ok G) (okH : Ok H) {ks hs : Nat → Int} (kG : Kinds G ks) (kH : Kinds H hs) {F W R : List Nat} (r : LRun G ks F W R) :
    ∀ {F' W' R' : List Nat}, LRun H hs F' W' R' → BisL G H F F' → BisL G H W W' → FInv G ks F W → FInv H hs F' W' → BisL G H R R' := by
  induction r with
  | done F =>
    intro F' W' R' r' bF bW I I'
    have : W' = [] := by have := bW.1; simpa using this.symm
    subst this
    cases r'
    exact bF
  | @skip F W R a h r ih =>
    intro F' W' R' r' bF bW I I'
    cases r' with
    | done => have := bW.1; simp at this
    | @skip _ W' _ a' h' r' =>
      obtain ⟨ba, bW⟩ := bW.uncons
      exact ih r' bF bW (I.skip h) (I'.skip h')
    | @new _ W' _ a' h' r' =>
      obtain ⟨ba, bW⟩ := bW.uncons
      obtain ⟨f, hf, e⟩ := met_alike kG kH I.lt I'.lt (I.ltW a List.mem_cons_self) (I'.ltW a' List.mem_cons_self) bF ba h
      exact absurd e (h' f hf)
  | @new F W R a h r ih =>
    intro F' W' R' r' bF bW I I'
    cases r' with
    | done => have := bW.1; simp at this
    | @skip _ W' _ a' h' r' =>
      obtain ⟨ba, bW⟩ := bW.uncons
      obtain ⟨f, hf, e⟩ := met_alike kH kG I'.lt I.lt (I'.ltW a' List.mem_cons_self) (I.ltW a List.mem_cons_self) bF.symm ba.symm h'
      exact absurd e (h f hf)
    | @new _ W' _ a' h' r' =>
      obtain ⟨ba, bW⟩ := bW.uncons
      exact ih r' (bF.append (BisL.nil.cons ba)) ((BisL.parts ba).append bW) (I.new okG h) (I'.new okH h')
theorem findIdx_alike {A B : Type} {p : A → Bool} {q : B → Bool} : ∀ {l : List A} {m : List B}, l.length = m.length → (∀ (k : Nat) (x : A) (y : B), l[k]? = some x → m[k]? = some y → p x = q y) → l.findIdx p = m.findIdx q
  | [], [], _, _ => rfl
  | [], _ :: _, h, _ => by simp at h
  | _ :: _, [], h, _ => by simp at h
  | x :: l, y :: m, h, e => by
    rw [List.findIdx_cons, List.findIdx_cons, e 0 x y rfl rfl]
    rw [findIdx_alike (l := l) (m := m) (by simpa using h) fun k x y h1 h2 => e (k + 1) x y (by simpa using h1) (by simpa using h2)]
theorem ix_alike {G H : List (Nd α)} {ks hs : Nat → Int} (kG : Kinds G ks) (kH : Kinds H hs) {F F' : List Nat} {a a' : Nat} (hF : ∀ f ∈ F, f < G.length) (hF' : ∀ f ∈ F', f < H.length) (ha : a < G.length) (ha' : a' < H.length)
    (bF : BisL G H F F') (ba : Bis G H a a') : ix ks F (ks a) = ix hs F' (hs a') := by
  refine findIdx_alike bF.1 fun k x y h1 h2 => ?_
  have hx := hF x (List.mem_of_getElem? h1)
  have hy := hF' y (List.mem_of_getElem? h2)
  have := kinds_alike kG kH hx ha hy ha' (bF.2 k x y h1 h2) ba
  by_cases e : ks x = ks a
  · rw [beq_iff_eq.mpr e, beq_iff_eq.mpr (this.mp e)]
  · rw [beq_eq_false_iff_ne.mpr e, beq_eq_false_iff_ne.mpr fun z => e (this.mpr z)]
theorem least_of_bis {G H L M : List (Nd α)} (okG : Ok G) (okH : Ok H) (lG : Least G L) (lH : Least H M) (b : Bis G H 0 0) : L = M := by
  obtain ⟨ks, F, kG, rG, rfl⟩ := lG
  obtain ⟨hs, F', kH, rH, rfl⟩ := lH
  have IG := rG.inv okG (FInv.start okG ks)
  have IH := rH.inv okH (FInv.start okH hs)
  have bF := runs_alike okG okH kG kH rG rH .nil (BisL.nil.cons b) (FInv.start okG ks) (FInv.start okH hs)
  unfold lst
  refine List.ext_getElem (by simp [bF.1]) fun k h1 h2 => ?_
  rw [List.length_map] at h1 h2
  rw [List.getElem_map, List.getElem_map]
  have g1 : F[k]? = some F[k] := List.getElem?_eq_getElem h1
  have g2 : F'[k]? = some F'[k] := List.getElem?_eq_getElem h2
  have bk := bF.2 k _ _ g1 g2
  refine nd_ext (by rw [hd_mapP, hd_mapP]; exact bk.hd) ?_
  rw [parts_mapP, parts_mapP]
  have hl := hd_len bk.hd
  refine List.ext_getElem (by simp [hl]) fun m h3 h4 => ?_
  rw [List.getElem_map, List.getElem_map]
  rw [List.length_map] at h3 h4
  exact ix_alike kG kH IG.lt IH.lt (okG.parts _ (IG.lt _ (List.getElem_mem h1)) _ (List.getElem_mem h3)) (okH.parts _ (IH.lt _ (List.getElem_mem h2)) _ (List.getElem_mem h4)) bF
    (bk.part (List.getElem?_eq_getElem h3) (List.getElem?_eq_getElem h4))
theorem lst_get {G : List (Nd α)} {ks : Nat → Int} {F : List Nat} {m f : Nat} (h : F[m]? = some f) : at_ (lst G ks F) m = (at_ G f).mapP fun p => ix ks F (ks p) := by
  refine at_get ?_
  unfold lst
  rw [List.getElem?_map, h]
  rfl
theorem lst_len {G : List (Nd α)} {ks : Nat → Int} {F : List Nat} : (lst G ks F).length = F.length := by unfold lst; simp
theorem bis_lst {G : List (Nd α)} (okG : Ok G) {ks : Nat → Int} {F : List Nat} (kG : Kinds G ks) (I : FInv G ks F []) : Bis G (lst G ks F) 0 0 := by
  have cov : ∀ f ∈ F, ∀ p ∈ (at_ G f).parts, ∃ f' ∈ F, ks f' = ks p := fun f hf p hp => (I.cov f hf p hp).elim id fun z => nomatch z
  refine ⟨fun i m => i < G.length ∧ ∃ f, F[m]? = some f ∧ Bis G G i f, fun i m ⟨hi, f, hf, b⟩ => ?_, okG.pos, 0, ?_, .refl _ _⟩
  · rw [lst_get hf]
    refine ⟨b.hd.trans (hd_mapP _ _).symm, fun k p q hp hq => ?_⟩
    rw [parts_mapP, List.getElem?_map] at hq
    cases e : (at_ G f).parts[k]? with
    | none => rw [e] at hq; cases hq
    | some r =>
      rw [e] at hq
      have eq : ix ks F (ks r) = q := Option.some.inj hq
      have hr : r ∈ (at_ G f).parts := List.mem_of_getElem? e
      have hfm : f ∈ F := List.mem_of_getElem? hf
      have hlt := ix_lt (cov f hfm r hr)
      rw [eq] at hlt
      have g : F[q]? = some F[q] := List.getElem?_eq_getElem hlt
      have kq : ks F[q] = ks r := ix_kind (k := ks r) (by rw [eq]; exact g)
      have lr : r < G.length := okG.parts f (I.lt f hfm) r hr
      refine ⟨okG.parts i hi p (List.mem_of_getElem? hp), F[q], g, (b.part hp e).trans ((kG r F[q] lr (I.lt _ (List.getElem_mem hlt))).mp kq.symm)⟩
  · rcases I.root with z | ⟨_, _, z⟩
    · exact z
    · cases z
theorem Least.bis {G L : List (Nd α)} (okG : Ok G) (l : Least G L) : Bis G L 0 0 := by
  obtain ⟨ks, F, kG, rG, rfl⟩ := l
  exact bis_lst okG kG (rG.inv okG (FInv.start okG ks))
theorem Least.len {G L : List (Nd α)} (okG : Ok G) (l : Least G L) : L.length ≤ G.length := by
  obtain ⟨ks, F, kG, rG, rfl⟩ := l
  rw [lst_len]
  exact (rG.inv okG (FInv.start okG ks)).le
theorem Least.ok {G L : List (Nd α)} (okG : Ok G) (l : Least G L) : Ok L := by
  obtain ⟨ks, F, kG, rG, rfl⟩ := l
  have I := rG.inv okG (FInv.start okG ks)
  refine ⟨?_, fun i hi p hp => ?_⟩
  · rw [lst_len]
    rcases I.root with z | ⟨_, _, z⟩
    · exact (List.getElem?_eq_some_iff.mp z).1
    · cases z
  · rw [lst_len] at hi ⊢
    rw [lst_get (List.getElem?_eq_getElem hi), parts_mapP] at hp
    obtain ⟨r, hr, e⟩ := List.mem_map.mp hp
    rw [← e]
    exact ix_lt ((I.cov _ (List.getElem_mem hi) r hr).elim id fun z => nomatch z)
theorem least_iff {G H L M : List (Nd α)} (okG : Ok G) (okH : Ok H) (lG : Least G L) (lH : Least H M) : L = M ↔ Bis G H 0 0 :=
  ⟨fun e => by subst e; exact (lG.bis okG).trans (lH.bis okH).symm, least_of_bis okG okH lG lH⟩
section
variable {A : Type} [DecidableEq A]
def addNew (rows : List A) (ps : List A) : List A := ps.foldl (fun r p => if p ∈ r then r else r ++ [p]) rows
theorem addNew_nil (rows : List A) : addNew rows [] = rows := rfl
theorem addNew_cons (rows : List A) (p : A) (ps : List A) : addNew rows (p :: ps) = addNew (if p ∈ rows then rows else rows ++ [p]) ps := rfl
theorem addNew_snoc (rows : List A) (ps : List A) (p : A) : addNew rows (ps ++ [p]) = if p ∈ addNew rows ps then addNew rows ps else addNew rows ps ++ [p] := by
  unfold addNew; rw [List.foldl_append]; rfl
theorem addNew_take {rows ps : List A} {i : Nat} {p : A} (h : ps[i]? = some p) : addNew rows (ps.take (i + 1)) = if p ∈ addNew rows (ps.take i) then addNew rows (ps.take i) else addNew rows (ps.take i) ++ [p] := by
  have e : ps.take (i + 1) = ps.take i ++ [p] := by rw [List.take_add_one, h]; rfl
  rw [e, addNew_snoc]
theorem mem_addNew {x : A} : ∀ {ps rows : List A}, x ∈ addNew rows ps ↔ x ∈ rows ∨ x ∈ ps
  | [], rows => by simp [addNew_nil]
  | p :: ps, rows => by
    rw [addNew_cons, mem_addNew]
    by_cases h : p ∈ rows
    · rw [if_pos h]
      constructor
      · rintro (z | z)
        · exact .inl z
        · exact .inr (List.mem_cons_of_mem _ z)
      · rintro (z | z)
        · exact .inl z
        · rcases List.mem_cons.mp z with e | z
          · subst e; exact .inl h
          · exact .inr z
    · rw [if_neg h]; simp [or_assoc]
theorem nodup_addNew : ∀ {ps rows : List A}, rows.Nodup → (addNew rows ps).Nodup
  | [], rows, h => h
  | p :: ps, rows, h => by
    rw [addNew_cons]
    refine nodup_addNew ?_
    by_cases hp : p ∈ rows
    · rw [if_pos hp]; exact h
    · rw [if_neg hp]
      exact List.nodup_append.mpr ⟨h, by simp, fun x hx y hy e => by simp at hy; subst hy; subst e; exact hp hx⟩
theorem addNew_keeps {x : A} {i : Nat} : ∀ {ps rows : List A}, rows[i]? = some x → (addNew rows ps)[i]? = some x
  | [], rows, h => h
  | p :: ps, rows, h => by
    rw [addNew_cons]
    refine addNew_keeps ?_
    split
    · exact h
    · rw [List.getElem?_append_left (List.getElem?_eq_some_iff.mp h).1]; exact h
theorem addNew_len : ∀ {ps rows : List A}, rows.length ≤ (addNew rows ps).length
  | [], rows => Nat.le_refl _
  | p :: ps, rows => by
    rw [addNew_cons]
    refine Nat.le_trans ?_ addNew_len
    split
    · exact Nat.le_refl _
    · simp
end
def pairsOf (n m : Nat) : List (Nat × Nat) := (List.range n).flatMap fun i => (List.range m).map fun j => (i, j)
theorem mem_pairsOf {n m i j : Nat} : (i, j) ∈ pairsOf n m ↔ i < n ∧ j < m := by
  simp [pairsOf]
theorem len_pairsOf (n m : Nat) : (pairsOf n m).length = n * m := by
  unfold pairsOf
  rw [List.length_flatMap]
  simp [List.map_const', List.sum_replicate_nat]
theorem pairs_le {rows : List (Nat × Nat)} {n m : Nat} (h : rows.Nodup) (hb : ∀ x ∈ rows, x.1 < n ∧ x.2 < m) : rows.length ≤ n * m := by
  rw [← len_pairsOf]
  exact length_le_of_nodup h fun x hx => mem_pairsOf.mpr (hb x hx)
structure CmpInv (G H : List (Nd α)) (rows : List (Nat × Nat)) (at' : Nat) : Prop where
  nd : rows.Nodup
  lt : ∀ x ∈ rows, x.1 < G.length ∧ x.2 < H.length
  root : (0, 0) ∈ rows
  seen : ∀ k, k < at' → ∀ i j, rows[k]? = some (i, j) → (at_ G i).hd = (at_ H j).hd ∧ ∀ (m p q : Nat), (at_ G i).parts[m]? = some p → (at_ H j).parts[m]? = some q → (p, q) ∈ rows
  bis : Bis G H 0 0 → ∀ x ∈ rows, Bis G H x.1 x.2
theorem CmpInv.start {G H : List (Nd α)} (okG : Ok G) (okH : Ok H) : CmpInv G H [(0, 0)] 0 :=
  ⟨by simp, fun x hx => by simp at hx; subst hx; exact ⟨okG.pos, okH.pos⟩, by simp, fun k hk => absurd hk (Nat.not_lt_zero k), fun b x hx => by simp at hx; subst hx; exact b⟩
theorem CmpInv.le {G H : List (Nd α)} {rows : List (Nat × Nat)} {k : Nat} (I : CmpInv G H rows k) : rows.length ≤ G.length * H.length := pairs_le I.nd I.lt
theorem CmpInv.stop {G H : List (Nd α)} {rows : List (Nat × Nat)} {at' : Nat} (I : CmpInv G H rows at') (h : rows.length ≤ at') : Bis G H 0 0 := by
  refine ⟨fun i j => (i, j) ∈ rows, fun i j hij => ?_, I.root⟩
  obtain ⟨k, hk, e⟩ := List.getElem_of_mem hij
  exact I.seen k (by omega) i j (by rw [← e]; exact List.getElem?_eq_getElem hk)
theorem CmpInv.diff {G H : List (Nd α)} {rows : List (Nat × Nat)} {at' i j : Nat} (I : CmpInv G H rows at') (h : rows[at']? = some (i, j)) (hd : (at_ G i).hd ≠ (at_ H j).hd) : ¬ Bis G H 0 0 := fun b =>
  hd (I.bis b (i, j) (List.mem_of_getElem? h)).hd
theorem mem_zip_get {ps qs : List Nat} {p q : Nat} (h : (p, q) ∈ ps.zip qs) : ∃ m : Nat, ps[m]? = some p ∧ qs[m]? = some q := by
  obtain ⟨m, hm, e⟩ := List.getElem_of_mem h
  rw [List.getElem_zip] at e
  rw [List.length_zip] at hm
  refine ⟨m, ?_, ?_⟩
  · rw [List.getElem?_eq_getElem (by omega)]; injection e with e1 e2; rw [e1]
  · rw [List.getElem?_eq_getElem (by omega)]; injection e with e1 e2; rw [e2]
theorem zip_get_mem {ps qs : List Nat} {m p q : Nat} (h1 : ps[m]? = some p) (h2 : qs[m]? = some q) : (p, q) ∈ ps.zip qs := by
  have e : (ps.zip qs)[m]? = some (p, q) := by rw [List.getElem?_zip_eq_some]; exact ⟨h1, h2⟩
  exact List.mem_of_getElem? e
theorem CmpInv.next {G H : List (Nd α)} (okG : Ok G) (okH : Ok H) {rows : List (Nat × Nat)} {at' i j : Nat} (I : CmpInv G H rows at') (h : rows[at']? = some (i, j)) (hd : (at_ G i).hd = (at_ H j).hd) :
    CmpInv G H (addNew rows ((at_ G i).parts.zip (at_ H j).parts)) (at' + 1) := by
  have hm : (i, j) ∈ rows := List.mem_of_getElem? h
  have ha : at' < rows.length := (List.getElem?_eq_some_iff.mp h).1
  obtain ⟨li, lj⟩ := I.lt _ hm
  refine ⟨nodup_addNew I.nd, fun x hx => ?_, mem_addNew.mpr (.inl I.root), fun k hk a b e => ?_, fun b x hx => ?_⟩
  · rcases mem_addNew.mp hx with z | z
    · exact I.lt x z
    · obtain ⟨m, h1, h2⟩ := mem_zip_get (p := x.1) (q := x.2) z
      exact ⟨okG.parts i li _ (List.mem_of_getElem? h1), okH.parts j lj _ (List.mem_of_getElem? h2)⟩
  · by_cases hk2 : k = at'
    · subst hk2
      have e2 := addNew_keeps (ps := (at_ G i).parts.zip (at_ H j).parts) h
      rw [e2] at e
      injection e with e
      injection e with e3 e4
      subst e3 e4
      exact ⟨hd, fun m p q h1 h2 => mem_addNew.mpr (.inr (zip_get_mem h1 h2))⟩
    · have hk3 : k < at' := by omega
      have g : rows[k]? = some rows[k] := List.getElem?_eq_getElem (by omega)
      have e2 := addNew_keeps (ps := (at_ G i).parts.zip (at_ H j).parts) g
      rw [e2] at e
      have e3 : rows[k] = (a, b) := Option.some.inj e
      obtain ⟨s1, s2⟩ := I.seen k hk3 a b (by rw [g, e3])
      exact ⟨s1, fun m p q h1 h2 => mem_addNew.mpr (.inl (s2 m p q h1 h2))⟩
  · rcases mem_addNew.mp hx with z | z
    · exact I.bis b x z
    · obtain ⟨m, h1, h2⟩ := mem_zip_get (p := x.1) (q := x.2) z
      exact (I.bis b _ hm).part h1 h2
def cutRel (cw : α) (rows : List (Nat × Nat)) (d l : Nat) : Nd α → Nd α → Prop
  | .tup s ps, b => if l = d then b = .atom cw else (Nd.tup s ps).Rel (fun p q => rows[q]? = some (p, l + 1)) b
  | a, b => b = a
theorem cutRel_tup {cw : α} {rows : List (Nat × Nat)} {d l : Nat} {s : α} {ps : List Nat} {b : Nd α} : cutRel cw rows d l (.tup s ps) b = if l = d then b = .atom cw else (Nd.tup s ps).Rel (fun p q => rows[q]? = some (p, l + 1)) b := rfl
structure CutInv (cw : α) (G : List (Nd α)) (d : Nat) (rows : List (Nat × Nat)) (C : List (Nd α)) : Prop where
  nd : rows.Nodup
  lt : ∀ x ∈ rows, x.1 < G.length ∧ x.2 < d + 1
  root : rows[0]? = some (0, 0)
  node : ∀ k, k < C.length → ∀ v l, rows[k]? = some (v, l) → cutRel cw rows d l (at_ G v) (at_ C k)
theorem CutInv.start {cw : α} {G : List (Nd α)} (okG : Ok G) {d : Nat} : CutInv cw G d [(0, 0)] [] :=
  ⟨by simp, fun x hx => by simp at hx; subst hx; exact ⟨okG.pos, by simp⟩, rfl, fun k hk => absurd hk (Nat.not_lt_zero k)⟩
theorem CutInv.le {cw : α} {G C : List (Nd α)} {d : Nat} {rows : List (Nat × Nat)} (I : CutInv cw G d rows C) : rows.length ≤ G.length * (d + 1) := pairs_le I.nd I.lt
theorem cutRel.mono {cw : α} {rows rows' : List (Nat × Nat)} {d l : Nat} (hr : ∀ (i : Nat) x, rows[i]? = some x → rows'[i]? = some x) {a b : Nd α} (h : cutRel cw rows d l a b) : cutRel cw rows' d l a b := by
  cases a with
  | tup s ps =>
    rw [cutRel_tup] at h ⊢
    by_cases e : l = d
    · rw [if_pos e] at h ⊢; exact h
    · rw [if_neg e] at h ⊢
      obtain ⟨qs, e1, e2, e3⟩ := h
      exact ⟨qs, e1, e2, fun k p q h1 h2 => hr q _ (e3 k p q h1 h2)⟩
  | _ => exact h
theorem at_append_left {G : List (Nd α)} {x : List (Nd α)} {i : Nat} (h : i < G.length) : at_ (G ++ x) i = at_ G i := by
  unfold at_; rw [List.getD_eq_getElem?_getD, List.getD_eq_getElem?_getD, List.getElem?_append_left h]
theorem at_append_last {G : List (Nd α)} {x : Nd α} : at_ (G ++ [x]) G.length = x := by
  unfold at_; rw [List.getD_eq_getElem?_getD, List.getElem?_append_right (Nat.le_refl _)]; simp
theorem CutInv.leaf {cw : α} {G C : List (Nd α)} {d : Nat} {rows : List (Nat × Nat)} (I : CutInv cw G d rows C) {v l : Nat} (h : rows[C.length]? = some (v, l)) {x : Nd α} (hx : cutRel cw rows d l (at_ G v) x) : CutInv cw G d rows (C ++ [x]) := by
  refine ⟨I.nd, I.lt, I.root, fun k hk a b e => ?_⟩
  rw [List.length_append] at hk
  by_cases hc : k < C.length
  · rw [at_append_left hc]; exact I.node k hc a b e
  · have e2 : k = C.length := by simp at hk; omega
    subst e2
    rw [h] at e; injection e with e; injection e with e3 e4; subst e3 e4
    rw [at_append_last]; exact hx
theorem CutInv.tup {cw : α} {G C : List (Nd α)} (okG : Ok G) {d : Nat} {rows : List (Nat × Nat)} (I : CutInv cw G d rows C) {v l : Nat} (h : rows[C.length]? = some (v, l)) {s : α} {ps qs : List Nat} (hv : at_ G v = .tup s ps) (hl : l ≠ d) (hq : qs.length = ps.length)
    (hi : ∀ (k p q : Nat), ps[k]? = some p → qs[k]? = some q → (addNew rows (ps.map fun p => (p, l + 1)))[q]? = some (p, l + 1)) : CutInv cw G d (addNew rows (ps.map fun p => (p, l + 1))) (C ++ [.tup s qs]) := by
  obtain ⟨lv, ll⟩ := I.lt _ (List.mem_of_getElem? h)
  have I2 : CutInv cw G d (addNew rows (ps.map fun p => (p, l + 1))) C := by
    refine ⟨nodup_addNew I.nd, fun x hx => ?_, addNew_keeps I.root, fun k hk a b e => ?_⟩
    · rcases mem_addNew.mp hx with z | z
      · exact I.lt x z
      · obtain ⟨p, hp, e⟩ := List.mem_map.mp z
        subst e
        refine ⟨okG.parts v lv p (by rw [hv]; exact hp), ?_⟩
        show l + 1 < d + 1
        have : l < d + 1 := ll
        omega
    · by_cases hk2 : k < rows.length
      · have g : rows[k]? = some rows[k] := List.getElem?_eq_getElem hk2
        rw [addNew_keeps g] at e
        have e3 : rows[k] = (a, b) := Option.some.inj e
        exact (I.node k hk a b (by rw [g, e3])).mono fun i x hx => addNew_keeps hx
      · have : C.length < rows.length := (List.getElem?_eq_some_iff.mp h).1
        omega
  refine I2.leaf (addNew_keeps h) ?_
  rw [hv]
  rw [cutRel_tup]
  rw [if_neg hl]
  exact ⟨qs, rfl, hq, hi⟩
def CutOk (cw : α) (G : List (Nd α)) (d : Nat) (C : List (Nd α)) : Prop := ∃ rows, CutInv cw G d rows C ∧ rows.length = C.length
theorem cutRel.part {cw : α} {rows : List (Nat × Nat)} {d l : Nat} {a b : Nd α} (h : cutRel cw rows d l a b) {k q : Nat} (hq : b.parts[k]? = some q) : ∃ p, a.parts[k]? = some p ∧ rows[q]? = some (p, l + 1) := by
  cases a with
  | tup s ps =>
    rw [cutRel_tup] at h
    by_cases e : l = d
    · rw [if_pos e] at h; subst h; simp [Nd.parts] at hq
    · rw [if_neg e] at h
      obtain ⟨qs, rfl, e2, e3⟩ := h
      have hk : k < qs.length := (List.getElem?_eq_some_iff.mp hq).1
      have g : ps[k]? = some (ps[k]'(by omega)) := List.getElem?_eq_getElem (by omega)
      exact ⟨_, g, e3 k _ q g hq⟩
  | _ =>
    have e : b = _ := h
    subst e
    simp [Nd.parts] at hq
theorem CutOk.ok {cw : α} {G C : List (Nd α)} {d : Nat} (c : CutOk cw G d C) : Ok C := by
  obtain ⟨rows, I, hl⟩ := c
  refine ⟨by rw [← hl]; exact (List.getElem?_eq_some_iff.mp I.root).1, fun i hi p hp => ?_⟩
  obtain ⟨k, hk, e⟩ := List.getElem_of_mem hp
  have g : rows[i]? = some rows[i] := List.getElem?_eq_getElem (by omega)
  obtain ⟨_, _, r⟩ := (I.node i hi _ _ (by rw [g])).part (k := k) (q := p) (by rw [← e]; exact List.getElem?_eq_getElem hk)
  rw [← hl]
  exact (List.getElem?_eq_some_iff.mp r).1
theorem CutOk.len {cw : α} {G C : List (Nd α)} {d : Nat} (c : CutOk cw G d C) : C.length ≤ G.length * (d + 1) := by
  obtain ⟨rows, I, hl⟩ := c
  rw [← hl]; exact I.le
theorem cutRel.hd {cw : α} {rows rows' : List (Nat × Nat)} {d l : Nat} {a b a' b' : Nd α} (h : cutRel cw rows d l a b) (h' : cutRel cw rows' d l a' b') (e : a.hd = a'.hd) : b.hd = b'.hd := by
  cases a with
  | tup s ps =>
    cases a' with
    | tup s' ps' =>
      rw [cutRel_tup] at h h'
      by_cases el : l = d
      · rw [if_pos el] at h h'; rw [h, h']
      · rw [if_neg el] at h h'
        rw [← h.hd, ← h'.hd]; exact e
    | _ => simp [Nd.hd] at e
  | _ =>
    cases a' with
    | tup s' ps' => simp [Nd.hd] at e
    | _ =>
      have e1 : b = _ := h
      have e2 : b' = _ := h'
      rw [e1, e2]; exact e
theorem cut_bis {cw : α} {G H C D : List (Nd α)} {d : Nat} (b : Bis G H 0 0) (c : CutOk cw G d C) (c' : CutOk cw H d D) : Bis C D 0 0 := by
  obtain ⟨rows, I, hl⟩ := c
  obtain ⟨rows', I', hl'⟩ := c'
  refine ⟨fun i j => ∃ v w l, rows[i]? = some (v, l) ∧ rows'[j]? = some (w, l) ∧ Bis G H v w, fun i j ⟨v, w, l, h1, h2, h3⟩ => ?_, 0, 0, 0, I.root, I'.root, b⟩
  have li : i < C.length := by rw [← hl]; exact (List.getElem?_eq_some_iff.mp h1).1
  have lj : j < D.length := by rw [← hl']; exact (List.getElem?_eq_some_iff.mp h2).1
  have r1 := I.node i li v l h1
  have r2 := I'.node j lj w l h2
  refine ⟨r1.hd r2 h3.hd, fun k p q hp hq => ?_⟩
  obtain ⟨p', hp', e1⟩ := r1.part hp
  obtain ⟨q', hq', e2⟩ := r2.part hq
  exact ⟨p', q', l + 1, e1, e2, h3.part hp' hq'⟩
structure Twice (G T : List (Nd α)) : Prop where
  len : T.length = 2 * G.length
  node : ∀ k, k < T.length → (at_ G (k % G.length)).Rel (fun p q => q < T.length ∧ q % G.length = p) (at_ T k)
structure Turned (T O : List (Nd α)) (pl : List Nat) : Prop where
  len : O.length = T.length
  plen : pl.length = T.length
  root : pl[0]? = some 0
  lt : ∀ x ∈ pl, x < T.length
  nd : pl.Nodup
  node : ∀ k x, pl[k]? = some x → at_ O x = (at_ T k).mapP fun p => pl.getD p 0
theorem Twice.ok {G T : List (Nd α)} (ok : Ok G) (t : Twice G T) : Ok T := by
  refine ⟨by rw [t.len]; have := ok.pos; omega, fun i hi p hp => ?_⟩
  obtain ⟨k, hk, e⟩ := List.getElem_of_mem hp
  have r := t.node i hi
  have hl := hd_len r.hd
  exact (r.parts k ((at_ G (i % G.length)).parts[k]'(by omega)) p (List.getElem?_eq_getElem _) (by rw [← e]; exact List.getElem?_eq_getElem hk)).1
theorem Twice.bis {G T : List (Nd α)} (ok : Ok G) (t : Twice G T) : Bis G T 0 0 := by
  refine ⟨fun i j => j < T.length ∧ j % G.length = i, fun i j ⟨hj, e⟩ => ?_, ?_, ?_⟩
  · have r := t.node j hj
    rw [e] at r
    exact ⟨r.hd, fun k p q hp hq => r.parts k p q hp hq⟩
  · have := ok.pos; rw [t.len]; omega
  · exact Nat.zero_mod _
theorem getD_get {l : List Nat} {i x : Nat} (h : l[i]? = some x) : l.getD i 0 = x := by rw [List.getD_eq_getElem?_getD, h]; rfl
theorem Turned.at_mem {T O : List (Nd α)} {pl : List Nat} (t : Turned T O pl) {x : Nat} (hx : x < T.length) : ∃ k : Nat, pl[k]? = some x := by
  obtain ⟨k, hk, e⟩ := List.getElem_of_mem (mem_of_full t.nd t.plen t.lt x hx)
  exact ⟨k, by rw [← e]; exact List.getElem?_eq_getElem hk⟩
theorem Turned.ok {T O : List (Nd α)} {pl : List Nat} (ok : Ok T) (t : Turned T O pl) : Ok O := by
  refine ⟨by rw [t.len]; exact ok.pos, fun i hi p hp => ?_⟩
  rw [t.len] at hi ⊢
  obtain ⟨k, hk⟩ := t.at_mem hi
  rw [t.node k i hk, parts_mapP] at hp
  obtain ⟨r, hr, e⟩ := List.mem_map.mp hp
  have hkl : k < T.length := by rw [← t.plen]; exact (List.getElem?_eq_some_iff.mp hk).1
  have hrl : r < pl.length := by rw [t.plen]; exact ok.parts k hkl r hr
  have g : pl[r]? = some pl[r] := List.getElem?_eq_getElem hrl
  rw [← e, getD_get g]
  exact t.lt _ (List.getElem_mem hrl)
theorem Turned.bis {T O : List (Nd α)} {pl : List Nat} (ok : Ok T) (t : Turned T O pl) : Bis T O 0 0 := by
  refine ⟨fun k x => k < T.length ∧ pl[k]? = some x, fun k x ⟨hk, e⟩ => ?_, ok.pos, t.root⟩
  rw [t.node k x e]
  refine ⟨(hd_mapP _ _).symm, fun m p q hp hq => ?_⟩
  rw [parts_mapP, List.getElem?_map, hp] at hq
  have hpl : p < T.length := ok.parts k hk p (List.mem_of_getElem? hp)
  have g : pl[p]? = some (pl[p]'(by rw [t.plen]; exact hpl)) := List.getElem?_eq_getElem _
  refine ⟨hpl, ?_⟩
  have e2 : pl.getD p 0 = q := Option.some.inj hq
  rw [getD_get g] at e2
  rw [g, e2]
inductive Reach {S : Type} (f : S → Option S) : S → S → Prop
  | refl (a : S) : Reach f a a
  | step {a b c : S} (h : f a = some b) (r : Reach f b c) : Reach f a c
theorem Reach.snoc {S : Type} {f : S → Option S} {a b c : S} (r : Reach f a b) (h : f b = some c) : Reach f a c := by
  induction r with
  | refl a => exact .step h (.refl _)
  | step h' _ ih => exact .step h' (ih h)
theorem Reach.final {S : Type} {f : S → Option S} {a b c : S} (r : Reach f a b) (hb : f b = none) (q : Reach f a c) (hc : f c = none) : b = c := by
  induction r with
  | refl a =>
    cases q with
    | refl => rfl
    | step h _ => rw [hb] at h; cases h
  | step h _ ih =>
    cases q with
    | refl => rw [hc] at h; cases h
    | step h' q => rw [h] at h'; cases h'; exact ih hb q
end
end Lw
set_option maxRecDepth 100000
set_option maxHeartbeats 4000000
namespace LwR
open PySem PySem.Spec PyProof.Rows L2
def tLenSetN (K : PySem.W.Frag) (ta : TE) : TE := fun σ H Q => ta σ H fun x H1 => ∃ (l : Addr) (ns : List Int), x = .ref l ∧ SqL K H1 l (ns.map V.int) ∧ ns.length ≤ 4000 ∧
  Q (.int ((PyProof.Rows.firstMet (fun i => ns.getD i 0) ns.length).length : Nat)) H1
theorem pe_lenSetN {X : Cx} {a : Expr} {ta : TE} {p p2 q pos : Pos} (hg : Gl X "len") (hm : X.mg "len" = none) (hg2 : Gl X "set") (hm2 : X.mg "set" = none) (ha : PE X a ta) (hc : X.calm = true := by rfl)
    (na : starEach [a] X.env = (false, eval a X.env) :: starEach [] X.env := by rfl) : PE X (.Call (.Name "len" p) [.Call (.Name "set" p2) [a] [] q] [] pos) (tLenSetN X.K ta) := by
  refine ⟨fun pins s σ H Q I h => ?_⟩
  refine Call_ (ld_blt I hg hm boot_len ?_)
  refine PyProof.Rows.callWith_builtin1 (PyProof.Rows.args_cons ?_ rfl) rfl rfl
  refine Call_ (ld_blt I hg2 hm2 boot_set ?_)
  refine PyProof.Rows.callWith_type1 (PyProof.Rows.args_cons (thn (ha.run pins s σ H _ I h) fun v s1 ⟨x, H1, I1, r1, q1⟩ => PyProof.Rows.args_nil ?_) na) na rfl
  obtain ⟨l, ns, rfl, hq, hl, q1⟩ := q1
  cases r1
  obtain ⟨its, r, pl, hz⟩ := I1.list hq
  have hlen : its.toArray.size = ns.length := by rw [List.size_toArray, ← r.length, List.length_map]
  refine call_set_list (I1.ok.hd hc) pl.isList (by simpa using RZ.intsAre_vals r) (by rw [hlen]; unfold scanBound; omega) fun h' tk hS hk => ?_
  refine PyProof.Rows.args_nil ?_
  rw [hlen] at hS
  obtain ⟨o, es, ep, t, ho, hex, hd, _, _, _, hf, hn⟩ := hS
  have I2 : Inv X pins σ H1 { s1 with heap := h', toks := tk } := I1.kept fun b o e => hk b o (Heap.lt_size e) e
  have hle := PyProof.Rows.firstMet_length_le (fun i => ns.getD i 0) ns.length
  exact call_len_set ho hex hd hf (by rw [hn] <;> omega) ⟨.int ((PyProof.Rows.firstMet (fun i => ns.getD i 0) ns.length).length : Nat), H1, I2.tok _, ⟨_, by rw [hn]⟩, q1⟩
section
variable {X : Cx} {pins : List (Addr × Obj)} {σ : L2.St} {H : Hp} {s : Shared} {a b : Addr} {u r : Value} {d : V} {k : List Key} {A : Around} {E : Value → Shared → Prop}
theorem d_setdT {kvs : List (List Key × V)} {Q : Value → Shared → Prop} (hu : A.units + 1 < cLine) (I : Inv X pins σ H s) (e : H a = some (.dT kvs)) (eb : H b = some (.tup (k.map kV))) (rd : RelV d r) (hl : kvs.length < sizeLine)
    (h1 : ∀ v, valV kvs k = some v → ∀ (w' : Value) (s' : Shared), Inv X pins σ H s' → RelV v w' → Q w' s') (h2 : valV kvs k = none → ∀ (w' : Value) (s' : Shared), Inv X pins σ (upd H a (.dT (putK kvs k d))) s' → RelV d w' → Q w' s') :
    wpAny (model X.prog X.w) A (call (.builtin "dict.setdefault") [.ref a, .ref b, r]) Q E s := by
  obtain ⟨z, hd, xs, rel, dd⟩ := dt_of I.hok e
  have hz : xs.length ≤ sizeLine := by rw [← Paired.length rel]; exact z
  refine call_setdefault_heap (hsz := hz) (tupleKind_room_in1 hu) (key_of I.hok eb) hd dd (fun p hp => ?_) fun hn h' dd' hs => ?_
  · obtain ⟨v, hv, rv⟩ : ∃ v, valV kvs k = some v ∧ RelV v p.2 := by
      have q := rel.val k
      rw [hp] at q
      cases q0 : valV kvs k with
      | none => rw [q0] at q; exact (show False from q).elim
      | some v0 => rw [q0] at q; exact ⟨v0, rfl, q⟩
    exact h1 v hv _ _ (I.tok _) rv
  · have q0 : valV kvs k = none := by
      have q := rel.val k
      rw [hn] at q
      cases q0 : valV kvs k with
      | none => rfl
      | some v0 => rw [q0] at q; exact (show False from q).elim
    have hl2 : (putK kvs k d).length ≤ sizeLine := by have := length_putK kvs k d; omega
    refine h2 q0 _ _ ?_ rd
    obtain ⟨q, es, ep, hq, h2, h3, h4, _, h5⟩ := dd'
    refine d_write I (by rw [e]; exact True.intro) hs ⟨q, hq⟩ ⟨hl2, hd, _, (rel.put k eb rd).keeps fun c ys ec => ?_, q, es, ep, hq, h2, h3, h4, h5⟩
    rw [upd_ne (ne_of ec e (fun z => nomatch z))]
    exact ec
end
def tDSetdT (td ty tx : TE) : TE := fun σ H Q => td σ H fun x H1 => ∃ a, x = .ref a ∧ IsD H1 a ∧ ty σ H1 fun y H2 => tx σ H2 fun z H3 => ∃ (kvs : List (List Key × V)) (k : List Key) (b : Addr), H3 a = some (.dT kvs) ∧ y = .ref b ∧ H3 b = some (.tup (k.map kV)) ∧ kvs.length < sizeLine ∧
  (∀ v, valV kvs k = some v → Q v H3) ∧ (valV kvs k = none → Q z (upd H3 a (.dT (putK kvs k z))))
theorem pe_dsetdT {X : Cx} {o e f : Expr} {td ty tx : TE} {apos cpos : Pos} (hu : X.A.units + 1 < cLine) (ho : PE X o td) (he : PE X e ty) (hf : PE X f tx) (m : M2 X o "setdefault" apos e f cpos) : PE X (.Call (.Attribute o "setdefault" apos) [e, f] [] cpos) (tDSetdT td ty tx) := by
  refine ⟨fun pins s σ H Q I h => ?_⟩
  refine wpAny_Call_method m.base m.few m.line PySem.F.plainAttrs_dict PySem.F.slot_dict_setdefault PySem.F.type_dict_setdefault (thn (ho.run pins s σ H _ I h) fun u s1 ⟨x, H1, I1, rx, a, ex, d, q1⟩ => ?_)
  subst ex
  obtain rfl : u = Value.ref a := rx
  obtain ⟨t1, t2, _⟩ := isD_at I1 d
  refine ⟨t1, t2, ?_⟩
  rw [m.trees]
  refine Calls.callWith_builtin rfl (Calls.evalArgs_plain (Calls.spliced_cons (thn (he.run pins s1 σ H1 _ I1 q1) fun iv s2 ⟨y, H2, I2, ry, q2⟩ =>
    Calls.spliced_cons (thn (hf.run pins s2 σ H2 _ I2 q2) fun fv s3 ⟨z, H3, I3, rz, kvs, k, b, ea, ey, eb, hl, q3, q4⟩ => Calls.spliced_nil ?_))))
  subst ey
  obtain rfl : iv = Value.ref b := ry
  exact d_setdT hu I3 ea eb rz hl (fun v hv w' s4 I4 rw' => ⟨v, _, I4, rw', q3 v hv⟩) fun hn w' s4 I4 rw' => ⟨z, _, I4, rw', q4 hn⟩
theorem extend_tup (l : Addr) (items : Array Value) (n : Nat) (b : Addr) (items2 : Array Value) (n2 : Nat) (dd : Option Addr) (sl : Array (Option Value)) (hs0 : ¬(!items.isEmpty && Builtin.List.listTooLong (items.size + items2.size)) = true) (hs1 : items.size ≤ sizeLine) (hs2 : items.size + items2.size ≤ sizeLine + 1) :
    Meets (Builtin.«list.extend» ⟨[.ref l, .ref b], []⟩) (fun _ R s => s.heap.get? l = some { cls := .type "list", dict := none, data := .seq items n, slots := #[] } ∧ s.heap.get? b = some { cls := .type "tuple", dict := dd, data := .seq items2 n2, slots := sl } ∧ R (.ok (.ret Value.none)) { s with heap := s.heap.update l (Obj.mapSeq fun x => x ++ items2), toks := s.toks }) :=
  .of_wp fun prog w A R s h => by
    obtain ⟨hp, g, d, tk, os⟩ := s; obtain ⟨hl, hb, h⟩ := h
    have f1 := AutoSeq1.idx_int; have f2 := AutoSeq1.sub_tuple_tuple; have f3 := AutoSeq1.sub_list_list; have f4 := AutoSeq1.sub_tuple_list; have f5 := AutoSeq1.sub_list_tuple
    have hz' : (items ++ items2).size ≤ sizeLine + 1 := by rw [Array.size_append]; exact hs2
    wp_walk using (wpAny_updateSeq hl rfl (hz := hs1) (_hz' := hz')), AutoSeq1.wpAny_loadPart' hl, AutoSeq1.wpAny_loadPart' hb; exact ⟨_, rfl, h⟩
def rExtendT (K : PySem.W.Frag) : V → List V → Hp → VK → Prop := fun x vs H Q => ∃ l b xs zs, x = .ref l ∧ vs = [.ref b] ∧ H l = some (.lst xs) ∧ SqT K H b zs ∧ xs.length + zs.length ≤ sizeLine ∧ Q .non (upd H l (.lst (xs ++ zs)))
theorem mt_extendT {X : Cx} : MtM X "list.extend" (rExtendT X.K) := by
  intro pins s σ H x vs v us Q I rx rv h
  obtain ⟨l, b, xs, zs, rfl, rfl, hH, hB, hz, q⟩ := h
  cases rx
  obtain ⟨u, rfl, ru⟩ := rv.one
  cases ru
  obtain ⟨z, its, n, r, hl, e⟩ := I.lstM hH
  obtain ⟨its2, r2, p2, z2⟩ := I.tuple hB
  have hl2 := r2.length
  obtain ⟨⟨cls, dd, data, sl⟩, ho, hc, n2, hd⟩ := id p2
  simp only at hc hd
  subst hc hd
  have hsz : its.toArray.size + its2.toArray.size ≤ sizeLine := by rw [List.size_toArray, List.size_toArray]; omega
  have hlong : ¬ (!its.toArray.isEmpty && Builtin.List.listTooLong (its.toArray.size + its2.toArray.size)) = true := by
    rw [notLongL hsz, Bool.and_false]
    exact Bool.false_ne_true
  refine call_meets PySem.F.slot_list_extend ⟨_, e, rfl⟩ PySem.F.entry_list_extend (PySem.F.args_list_extend_2 _ _)
    (extend_tup l its.toArray n b its2.toArray n2 dd sl hlong (by rw [List.size_toArray]; omega) (by omega)) ⟨e, ho, ?_⟩
  refine ⟨.non, _, I.lset (its' := its ++ its2) hH e (by simp) (r.append r2) ?_, rfl, q⟩
  rw [List.length_append]
  omega
section
variable {prog : Program} {w : World} {A : Around} {E : Value → Shared → Prop} {s : Shared}
theorem places_rev (n : Nat) : Builtin.Slice.slicePlaces ((n : Int) - 1) (-1) (-1) = n := by
  unfold Builtin.Slice.slicePlaces
  have h1 : ¬ ((-1 : Int) > 0) := by decide
  simp only [h1, if_false]
  by_cases h : n = 0
  · subst h; decide
  · simp; omega
theorem adjust_rev (n : Nat) : Builtin.Slice.sliceAdjust none none (-1) (n : Int) = ((n : Int) - 1, -1) := by
  unfold Builtin.Slice.sliceAdjust
  first | rfl | simp
theorem pick_rev (xs : Array Value) : ((List.range xs.size).filterMap fun (k : Nat) => xs[((xs.size : Int) - 1 + (k : Int) * (-1)).toNat]?).toArray = xs.toList.reverse.toArray := by
  have e : (fun (k : Nat) => xs[((xs.size : Int) - 1 + (k : Int) * (-1)).toNat]?) = (fun i => xs[i]?) ∘ fun k => xs.size - 1 - k := by
    funext k
    have : ((xs.size : Int) - 1 + (k : Int) * (-1)).toNat = xs.size - 1 - k := by omega
    rw [this]; rfl
  rw [e, ← List.filterMap_map, PySem.W.krv_range, List.filterMap_reverse, PySem.W.krv_all]
theorem sliceApplied_rev {sl : Addr} {vs : Value} {n : Nat} {Q : Int × Int × Nat → Shared → Prop} (hs : s.heap.IsSliceOf sl .none .none vs) (ps : IsPart vs (some (-1)))
    (h : Q ((n : Int) - 1, -1, n) s) : wpAny (model prog w) A (Builtin.Slice.sliceApplied (.ref sl) (pure (n : Int))) Q E s := by
  obtain ⟨os, hos, hcs, hds⟩ := id hs
  unfold Builtin.Slice.sliceApplied Builtin.Slice.sliceFields
  refine wpAny_bind (wpAny_bind (wpAny_field hos hds (x := .none) rfl (wpAny_bind (wpAny_field hos hds (x := .none) rfl (wpAny_bind (wpAny_field hos hds (x := vs) rfl (wpAny_pure ?_)))))))
  refine wpAny_bind (HT.slicePart_ ps ?_)
  show wpAny _ _ (if ((-1 : Int) == 0) = true then _ else _) _ _ s
  rw [if_neg (by decide)]
  refine wpAny_bind (slicePart_none (wpAny_bind (slicePart_none (wpAny_bind (wpAny_pure ?_)))))
  show wpAny _ _ (match Builtin.Slice.sliceAdjust none none (-1) (n : Int) with | (lo, hi) => pure (lo, (-1 : Int), Builtin.Slice.slicePlaces lo hi (-1))) _ _ s
  rw [adjust_rev]
  show wpAny _ _ (pure ((n : Int) - 1, (-1 : Int), Builtin.Slice.slicePlaces ((n : Int) - 1) (-1) (-1))) _ _ s
  rw [places_rev]
  exact wpAny_pure h
theorem getItem_tuple_rev {t sl : Addr} {items : Array Value} {vs : Value} {Q : Value → Shared → Prop} (ht : IsTup s.heap t items) (hs : s.heap.IsSliceOf sl .none .none vs) (ps : IsPart vs (some (-1)))
    (h : Q (.ref s.heap.objs.size) { s with heap := s.heap.push { cls := .type "tuple", data := .seq items.toList.reverse.toArray } })
    (hsz : items.size ≤ sizeLine) : wpAny (model prog w) A (getItem (.ref t) (.ref sl)) Q E s := by
  have hok : sizeOk (.seq items.toList.reverse.toArray) := by
    show items.toList.reverse.toArray.size ≤ sizeLine
    rw [List.size_toArray, List.length_reverse, Array.length_toList]
    exact hsz
  obtain ⟨os, hos, hcs, hds⟩ := id hs
  have hTs : s.TypeIs (.ref sl) "slice" := ⟨os, hos, hcs⟩
  unfold getItem
  try with_reducible refine wpAny_holding ?_
  first | refine wpAny_bind (wpAny_pure ?_) | skip
  refine wpAny_bind (wpAny_sequenceKey ht.typeIs (by decide) ?_)
  refine wpAny_bind (wpAny_callSpecial?_slot (name := Str.ofString "__getitem__") ht.typeIs PyProof.Rows.slot_tuple_getitem
    (wpAny_call_entry PyProof.Rows.slot_tuple_getitem ht.typeIs entry_tuple_getitem ?_ (args_tuple_getitem _ _)))
  show wpAny _ _ (Builtin.Tuple.tupleItemsOf (.ref t) >>= _) _ _ s
  refine wpAny_bind (tupleItemsOf_ ht ?_)
  refine wpAny_bind (wpAny_typeOf hTs ?_)
  rw [if_pos (by decide)]
  refine wpAny_bind (sliceApplied_rev hs ps ?_)
  have hno : ¬ (((((items.size : Nat) : Int) - 1) == 0 && (-1 : Int) == 1 && items.size == items.size) = true) := by
    intro q
    rw [Bool.and_eq_true, Bool.and_eq_true] at q
    exact absurd q.1.2 (by decide)
  show wpAny _ _ (if ((((items.size : Nat) : Int) - 1) == 0 && (-1 : Int) == 1 && items.size == items.size) = true then _ else _) _ _ s
  rw [if_neg hno, pick_rev]
  first
    | exact wpAny_bind (m := Builtin.Tuple.tupleExact _) (wpAny_newObj_type (wpAny_pure ⟨_, rfl, wpAny_pure h⟩) hok)
    | exact wpAny_bind (m := Builtin.Tuple.tupleExact _) (wpAny_newObj_type (wpAny_bind (wpAny_pure (wpAny_pure ⟨_, rfl, wpAny_pure h⟩))) hok)
    | exact wpAny_bind (wpAny_bind (m := Builtin.Tuple.tupleExact _) (wpAny_newObj_type (wpAny_pure (wpAny_pure ⟨_, rfl, wpAny_pure h⟩)) hok))
    | exact wpAny_bind (wpAny_bind (m := Builtin.Tuple.tupleExact _) (wpAny_newObj_type (wpAny_pure ⟨_, rfl, wpAny_pure h⟩) hok))
end
def tRevT (K : PySem.W.Frag) (te : TE) : TE := fun σ H Q => te σ H fun x H1 => ∃ a xs, x = .ref a ∧ SqT K H1 a xs ∧ ∀ p, H1 p = none → Q (.ref p) (upd H1 p (.tup xs.reverse))
theorem pe_revT {X : Cx} {e : Expr} {te : TE} {k : Nat} {p1 p2 p3 pos : Pos} (he : PE X e te) : PE X (.Subscript e (.Slice none none (some (.UnaryOp .USub (.Constant (.int 1) k p1) p2)) p3) pos) (tRevT X.K te) := by
  refine ⟨fun pins s σ H Q I h => ?_⟩
  refine Subscript_ (thn (he.run pins s σ H _ I h) fun v s1 ⟨x, H1, I1, r1, q1⟩ => ?_)
  obtain ⟨a, xs, ex, hx, q⟩ := q1
  subst ex
  cases r1
  have hst : PO X (some (.UnaryOp .USub (.Constant (.int 1) k p1) p2)) (tPart (tUn (rU fun i => .int (-i)) (tC (.int 1)))) := po_some (pe_un un_neg pe_int)
  refine wpAny_Slice (thn (po_none.run pins s1 σ H1 (fun o H2 => o = none ∧ H2 = H1) I1 ⟨rfl, rfl⟩) fun vl s2 ⟨l, H2, I2, pl, el, e2⟩ => ?_)
  subst el e2
  refine thn (po_none.run pins s2 σ H2 (fun o H3 => o = none ∧ H3 = H2) I2 ⟨rfl, rfl⟩) fun vu s3 ⟨u, H3, I3, pu, eu, e3⟩ => ?_
  subst eu e3
  refine thn (hst.run pins s3 σ H3 (fun o H4 => o = some (-1) ∧ H4 = H3) I3 ⟨1, rfl, -1, rfl, rfl, rfl⟩) fun vs s4 ⟨o, H4, I4, ps, eo, e4⟩ => ?_
  subst eo e4
  cases pl
  cases pu
  have I5 : Inv X pins σ H4 { s4 with heap := s4.heap.push { cls := .type "slice", data := .fields #[.none, .none, vs] } } := I4.kept (t' := s4.toks) fun b ob q => Heap.get?_push_of_some _ q
  obtain ⟨its, r, ht, hz⟩ := I5.tuple hx
  have hlen := r.length
  show wpAny (model X.prog X.w) X.A (subscriptTail e (.Slice none none (some (.UnaryOp .USub (.Constant (.int 1) k p1) p2)) p3) (.ref a) (.ref s4.heap.objs.size)) (EP X pins σ Q) X.xe { s4 with heap := s4.heap.push { cls := .type "slice", data := .fields #[.none, .none, vs] } }
  refine tail_any (ops := [.ref a, .ref s4.heap.objs.size]) ht.typeIs (PyProof.Rows.slot_tuple_getitem.lookup) ?_ (by with_unfolding_all rfl)
  refine getItem_tuple_rev ht (Heap.IsSliceOf.new _ .none .none vs) ps ?_ (by rw [List.size_toArray]; omega)
  refine ⟨.ref _, _, I5.laid (t' := s4.toks) (o := .tup xs.reverse) (fun b ob q => Heap.get?_push_of_some _ q) (Nat.le_refl _) ?_, rfl, q _ (I5.hok.fresh (Nat.le_refl _))⟩
  exact ⟨by rw [List.length_reverse]; exact hz, _, r.reverse, IsTup.new _ _⟩
theorem op_sub_bb {X : Cx} : OpR X (binaryOp .Sub) (fun x y H Q => ∃ i k, x = .bl i ∧ y = .bl k ∧ Q (.int (b2i i - b2i k)) H) := by
  intro pins s σ H x y v u Q I rx ry h
  obtain ⟨i, k, rfl, rfl, q⟩ := h
  cases rx
  cases ry
  exact sub_bool ⟨.int (b2i i - b2i k), H, I.tok _, ⟨_, rfl⟩, q⟩
def rGetL (K : PySem.W.Frag) : V → V → Hp → VK → Prop := fun o i H Q => ∃ p xs k v, o = .ref p ∧ i = .int k ∧ SqL K H p xs ∧ atI xs k = some v ∧ Q v H
end LwR
set_option maxHeartbeats 4000000
namespace LwR
open PySem PySem.Spec PyProof.Rows L2
theorem pget_list {X : Cx} : PGet X (rIxL X.K) := by
  intro pins s σ H x y v u Q I rx ry h
  obtain ⟨p, xs, i, z, rfl, rfl, hq, he, q⟩ := h
  cases rx
  obtain ⟨t, rfl⟩ := ry
  obtain ⟨its, r, pl, hz⟩ := I.list hq
  obtain ⟨j, h1, h2, h3, h4, h5⟩ := atI_get he
  obtain ⟨w, ew, rw'⟩ := r.get h2
  have hl := r.length
  have hn := line63
  have fin : EP X pins σ Q w s := ⟨z, H, I, rw', q⟩
  by_cases h0 : 0 ≤ i
  · have hj : i.toNat = j := by
      rw [seqIndex_of h0 h5] at h1
      exact Option.some.inj h1
    exact wpAny_getItem_list pl.isList h0 (by omega) (by rw [hj]; simpa using ew) fin
  · have hj : (i + (its.toArray.size : Int)).toNat = j := by
      rw [seqIndex_neg (by omega) h4] at h1
      rw [List.size_toArray, ← hl]
      exact Option.some.inj h1
    exact wpAny_getItem_list_neg pl.isList (by omega) (by rw [List.size_toArray] <;> omega) (by omega) (by rw [hj]; simpa using ew) fin
def lt3 (i n : Int) (s : Str) (j m : Int) (t : Str) : Bool := if i = j then (if n = m then decide (s.cps.toList < t.cps.toList) else decide (n < m)) else decide (i < j)
def e3 (i n : Int) (s : Str) (j m : Int) (t : Str) : Nat → Bool
  | 0 => i == j
  | 1 => n == m
  | _ => s == t
def r3 (i n : Int) (s : Str) (j m : Int) (t : Str) : Nat → Bool
  | 0 => decide (i < j)
  | 1 => decide (n < m)
  | _ => decide (s.cps.toList < t.cps.toList)
theorem lex3 (i n : Int) (s : Str) (j m : Int) (t : Str) : Ob.lexAt (e3 i n s j m t) (r3 i n s j m t) false 0 3 = lt3 i n s j m t := by
  rw [Ob.lexAt_succ, Ob.lexAt_succ, Ob.lexAt_succ, Ob.lexAt_zero]
  unfold lt3
  show (if (i == j) = true then (if (n == m) = true then (if (s == t) = true then false else decide (s.cps.toList < t.cps.toList)) else decide (n < m)) else decide (i < j)) = _
  by_cases h1 : i = j
  · rw [if_pos (beq_iff_eq.mpr h1), if_pos h1]
    by_cases h2 : n = m
    · rw [if_pos (beq_iff_eq.mpr h2), if_pos h2]
      by_cases h3 : s = t
      · rw [if_pos (beq_iff_eq.mpr h3)]
        subst h3
        exact (decide_eq_false (List.lt_irrefl _)).symm
      · rw [if_neg (fun z => h3 (beq_iff_eq.mp z))]
    · rw [if_neg (fun z => h2 (beq_iff_eq.mp z)), if_neg h2]
  · rw [if_neg (fun z => h1 (beq_iff_eq.mp z)), if_neg h1]
def rLt3 (K : PySem.W.Frag) (gt : Bool) : R2 := fun x y H Q => ∃ (a b : Addr) (i n : Int) (z : Str) (j m : Int) (t : Str), x = .ref a ∧ y = .ref b ∧ SqT K H a [.int i, .int n, .str z] ∧ SqT K H b [.int j, .int m, .str t] ∧
  Q (.bl (if gt then lt3 j m t i n z else lt3 i n z j m t)) H
theorem vals3 {i n : Int} {z : Str} {its : List Value} (r : Vals [V.int i, .int n, .str z] its) : ∃ t1 t2 t3, its = [.int i t1, .int n t2, .str z t3] := by
  cases r with
  | cons r1 r =>
    cases r with
    | cons r2 r =>
      cases r with
      | cons r3 r =>
        cases r
        obtain ⟨t1, rfl⟩ := r1
        obtain ⟨t2, rfl⟩ := r2
        obtain ⟨t3, rfl⟩ := r3
        exact ⟨t1, t2, t3, rfl⟩
theorem at3 {P : Nat → Prop} (h0 : P 0) (h1 : P 1) (h2 : P 2) : ∀ j, j < 3 → P j
  | 0, _ => h0
  | 1, _ => h1
  | 2, _ => h2
  | j + 3, h => absurd h (by omega)
theorem op_lt3 {X : Cx} (hu : X.A.units < cLine) : OpR X (compareOp .Lt) (rLt3 X.K false) := by
  intro pins s σ H x y v u Q I rx ry h
  obtain ⟨a, b, i, n, z, j, m, t, rfl, rfl, ha, hb, q⟩ := h
  cases rx
  cases ry
  obtain ⟨its, r1, p1, _⟩ := I.tuple ha
  obtain ⟨its2, r2, p2, _⟩ := I.tuple hb
  obtain ⟨t1, t2, t3, rfl⟩ := vals3 r1
  obtain ⟨u1, u2, u3, rfl⟩ := vals3 r2
  have R := Ob.RcOp.tuples_lt (A := X.A) (s := s) (e := e3 i n z j m t) (r := r3 i n z j m t) p1 p2 hu
    (fun k h1 h2 => by
      have hk : k < 3 := h1
      match k, hk with
      | 0, _ => exact SeqAt.EqAt.int_int _ _ _ _
      | 1, _ => exact SeqAt.EqAt.int_int _ _ _ _
      | 2, _ => exact SeqAt.EqAt.str_str _ _ _ _)
    (fun k h1 h2 _ => by
      have hk : k < 3 := h1
      match k, hk with
      | 0, _ => exact Ob.RcOp.lt_int _ _ _ _
      | 1, _ => exact Ob.RcOp.lt_int _ _ _ _
      | 2, _ => exact fun _ _ _ _ h => PySem.P.lt_str h)
  have R2 : Ob.RcOp .Lt X.A s (.ref a) (.ref b) (lt3 i n z j m t) := by
    rw [← lex3]
    exact R
  have zz : wpAny (model X.prog X.w) X.A (compareOp .Lt (.ref a) (.ref b)) (EP X pins σ Q) X.xe s := R2 X.prog X.w X.xe (EP X pins σ Q) ⟨.bl _, H, I, rfl, q⟩
  exact zz
theorem lex3g (i n : Int) (s : Str) (j m : Int) (t : Str) : Ob.lexAt (e3 i n s j m t) (r3 j m t i n s) false 0 3 = lt3 j m t i n s := by
  rw [← lex3]
  have e : e3 i n s j m t = e3 j m t i n s := by
    funext k
    match k with
    | 0 => exact Bool.beq_comm
    | 1 => exact Bool.beq_comm
    | k + 2 => exact Bool.beq_comm
  rw [e]
theorem op_gt3 {X : Cx} (hu : X.A.units < cLine) : OpR X (compareOp .Gt) (rLt3 X.K true) := by
  intro pins s σ H x y v u Q I rx ry h
  obtain ⟨a, b, i, n, z, j, m, t, rfl, rfl, ha, hb, q⟩ := h
  cases rx
  cases ry
  obtain ⟨its, r1, p1, _⟩ := I.tuple ha
  obtain ⟨its2, r2, p2, _⟩ := I.tuple hb
  obtain ⟨t1, t2, t3, rfl⟩ := vals3 r1
  obtain ⟨u1, u2, u3, rfl⟩ := vals3 r2
  have R := Ob.RcOp.tuples_gt (A := X.A) (s := s) (e := e3 i n z j m t) (r := r3 j m t i n z) p1 p2 hu
    (fun k h1 h2 => by
      have hk : k < 3 := h1
      match k, hk with
      | 0, _ => exact SeqAt.EqAt.int_int _ _ _ _
      | 1, _ => exact SeqAt.EqAt.int_int _ _ _ _
      | 2, _ => exact SeqAt.EqAt.str_str _ _ _ _)
    (fun k h1 h2 _ => by
      have hk : k < 3 := h1
      match k, hk with
      | 0, _ => exact Ob.RcOp.gt_int _ _ _ _
      | 1, _ => exact Ob.RcOp.gt_int _ _ _ _
      | 2, _ => exact fun _ _ _ _ h => PySem.P.gt_str h)
  have R2 : Ob.RcOp .Gt X.A s (.ref a) (.ref b) (lt3 j m t i n z) := by
    rw [← lex3g]
    exact R
  have zz : wpAny (model X.prog X.w) X.A (compareOp .Gt (.ref a) (.ref b)) (EP X pins σ Q) X.xe s := R2 X.prog X.w X.xe (EP X pins σ Q) ⟨.bl _, H, I, rfl, q⟩
  exact zz
def tDispT1 (tk tv : TE) : TE := fun σ H Q => ∀ p, H p = none → tk σ (upd H p (.dT [])) fun x H1 => tv σ H1 fun y H2 => ∃ (b : Addr) (k : List Key), x = .ref b ∧ H2 b = some (.tup (k.map kV)) ∧ H2 p = some (.dT []) ∧ Q (.ref p) (upd H2 p (.dT [(k, y)]))
theorem pe_dispT1 {X : Cx} {ke ve : Expr} {tk tv : TE} {pos : Pos} (hu : X.A.units + 1 < cLine) (hk : PE X ke tk) (hv : PE X ve tv) : PE X (.Dict [some ke] [ve] pos) (tDispT1 tk tv) := by
  refine ⟨fun pins s σ H Q I q => ?_⟩
  have hn := I.hok.fresh (Nat.le_refl s.heap.objs.size)
  have I1 := I.laid (a := s.heap.objs.size) (o := .dT []) (h' := s.heap.push { cls := .type "dict", data := .dict #[] }) (t' := s.toks) (fun _ _ q => Heap.get?_push_of_some _ q) (Nat.le_refl _) (dt_empty s.heap I.big)
  have hroom : (tupleKind (mixKind X.prog X.w)).room X.A := by show X.A.units < cLine; omega
  have hp0 : pairTrees [some ke] [ve] X.env pos ≠ [] := by intro z; cases z
  have hp1 : (pairTrees [some ke] [ve] X.env pos).length ≤ 15 := by show 1 ≤ 15; decide
  rw [arm_eval_Dict, zip_pairTrees _ _ _ _ rfl rfl, dictDisplay_pairs (pairTrees [some ke] [ve] X.env pos) hp0 (by omega)]
  refine wpAny_bind (wpAny_standAt (wpAny_bind (wpAny_subDictH (knd := tupleKind (mixKind X.prog X.w)) hroom hp1 ?_)))
  refine pairTrees_cons_walk (thn (hk.run pins _ σ _ _ I1 (q _ hn)) fun u s1 ⟨x, H1, I1', rx, q1⟩ => thn (hv.run pins s1 σ H1 _ I1' q1) fun w2 s2 ⟨y, H2, I2, ry, b, k, ex, eb, ed, q2⟩ => pairTrees_nil_walk ?_)
  subst ex
  obtain rfl : u = Value.ref b := rx
  obtain ⟨z, hd, xs0, r0, dd⟩ := dt_of I2.hok ed
  cases r0
  refine ⟨[(k, b, w2)], ⟨rfl, rfl, key_of I2.hok eb, trivial⟩, dd, fun h' tk' dd' hs => ?_⟩
  have dd2 : h'.DictOfH (tupleKind (mixKind X.prog X.w)) s.heap.objs.size [(k, b, w2)] := dd'
  obtain ⟨o, es, ep, ho, h2, h3, h4, h5, h6⟩ := id dd2
  refine wpAny_pure ⟨.ref s.heap.objs.size, _, d_write I2 (by rw [ed]; exact True.intro) hs ⟨o, ho⟩ ?_, rfl, q2⟩
  refine ⟨by show 1 ≤ sizeLine; decide, hd, [(k, b, w2)], .cons ⟨rfl, ?_, ry⟩ .nil, o, es, ep, ho, h2, h3, h4, h6⟩
  rw [upd_ne (ne_of eb ed (fun z => nomatch z))]
  exact eb
abbrev ZipAt (h : Heap) (z TI TO : Addr) (c : Value) (f : Bool) : Prop :=
  h.get? z = some { cls := .type "zip", dict := none, data := .fields #[c, .bool f, .bool false, .ref TI, .ref TO], slots := #[] }
section
variable {prog : Program} {w : World} {A : Around} {E : Value → Shared → Prop} {s : Shared}
theorem alive_ways {a : Addr} {Q : Option Obj → Shared → Prop} (h : Q (s.heap.get? a) s) : wpAny (model prog w) A (loadIfAlive a) Q E s := fun _ _ _ => h
theorem owned_ways {z TI TO : Addr} {c : Value} {f : Bool} {Q : Bool → Shared → Prop} (hz : ZipAt s.heap z TI TO c f) (hc : c = .none ∨ ∃ T : Addr, c = rawInt T) (h1 : Q true s)
    (h2 : ∀ h', ZipAt h' z TI TO c true → Heap.SameBut z s.heap h' → Q false { s with heap := h' }) : wpAny (model prog w) A (Builtin.SmallTypes.ownedTupleIsFree (.ref z)) Q E s := by
  unfold Builtin.SmallTypes.ownedTupleIsFree
  refine wpAny_bind (wpAny_field hz rfl (x := c) rfl ?_)
  rcases hc with rfl | ⟨T, rfl⟩
  · exact wpAny_pure h1
  · show wpAny _ _ (loadIfAlive ((T : Int).toNat) >>= _) _ _ _
    rw [Int.toNat_natCast]
    refine wpAny_bind (alive_ways ?_)
    cases hT : s.heap.get? T with
    | none => exact wpAny_pure h1
    | some o =>
      show wpAny _ _ (field (.ref z) 1 >>= _) _ _ _
      refine wpAny_bind (wpAny_field hz rfl (x := .bool f) rfl ?_)
      cases f with
      | true =>
        rw [if_neg (show ¬ ((Value.bool true != Value.bool true) = true) from Bool.false_ne_true)]
        exact wpAny_pure (h2 s.heap hz (Heap.SameBut.refl _ _))
      | false =>
        rw [if_pos (show (Value.bool false != Value.bool true) = true from rfl)]
        exact wpAny_bind (wpAny_setField_rec hz (by simp) fun h₁ hz₁ hs₁ => wpAny_pure (h2 h₁ hz₁ hs₁))
structure ZipGone (h h' : Heap) (z TI TO i1 i2 l1 l2 : Addr) (k1 k2 : Nat) (x y : Value) : Prop where
  zip : ∃ c f, ZipAt h' z TI TO c f ∧ (c = .none ∨ ∃ T : Addr, c = rawInt T)
  out : ∃ a b, IsPair h' TO a b
  it1 : h'.IsTupleIter i1 l1 (k1 + 1)
  it2 : h'.IsTupleIter i2 l2 (k2 + 1)
  new : IsPair h' h.objs.size x y
  size : h'.objs.size = h.objs.size + 1
  keep : ∀ c o, c ≠ z → c ≠ TO → c ≠ i1 → c ≠ i2 → h.get? c = some o → h'.get? c = some o
theorem zipN_item {z TI TO i1 i2 l1 l2 : Addr} {c : Value} {f : Bool} {k1 k2 : Nat} {xs ys : Array Value} {x y a b : Value} {Q : Value → Shared → Prop} (D : ZipApart z TI TO i1 i2 l1 l2)
    (hz : ZipAt s.heap z TI TO c f) (hc : c = .none ∨ ∃ T : Addr, c = rawInt T) (hTI : IsPair s.heap TI (.ref i1) (.ref i2)) (hTO : IsPair s.heap TO a b)
    (h1 : s.heap.IsTupleIter i1 l1 k1) (h2 : s.heap.IsTupleIter i2 l2 k2) (hl1 : s.heap.IsTuple l1 xs) (hl2 : s.heap.IsTuple l2 ys) (hx : xs[k1]? = some x) (hy : ys[k2]? = some y)
    (hQ : ∀ h', ZipGone s.heap h' z TI TO i1 i2 l1 l2 k1 k2 x y → Q (.ref s.heap.objs.size) { s with heap := h' }) :
    wpAny (model prog w) A (Builtin.«zip.__next__» ⟨[.ref z], []⟩) (fun fin s' => ∃ v, fin = .done (.ret v) ∧ Q v s') E s := by
  show wpAny _ _ (field (.ref z) 2 >>= _) _ _ _
  refine wpAny_bind (wpAny_field hz rfl (x := .bool false) rfl ?_)
  show wpAny _ _ (field (.ref z) 3 >>= _) _ _ _
  refine wpAny_bind (wpAny_field hz rfl (x := .ref TI) rfl ?_)
  refine wpAny_bind (wpAny_seqItems hTI rfl ?_)
  show wpAny _ _ (Builtin.SmallTypes.ownedTupleIsFree (.ref z) >>= _) _ _ _
  refine wpAny_bind (owned_ways hz hc ?_ fun h₁ hz₁ hs₁ => ?_)
  ·
    simp only [if_true]
    refine wpAny_bind (wpAny_rule ?_)
    refine wpAny_bind (wpAny_field hz rfl (x := .ref TO) rfl ?_)
    refine wpAny_bind (wpAny_setField_rec hz (by simp) fun h₁ hz₁ hs₁ => ?_)
    replace hz₁ : ZipAt h₁ z TI TO .ellipsis f := hz₁
    refine wpAny_bind ?_
    simp only [List.zipIdx_cons, List.zipIdx_nil, List.forIn_cons, List.forIn_nil]
    refine wpAny_bind (wpAny_bind (wpAny_onRaise ?_))
    show wpAny _ _ (Builtin.SmallTypes.nextOf (.ref i1) >>= _) _ _ _
    refine wpAny_bind (RZ.nextOf_tuple_item (s := { s with heap := h₁ }) (h1.extBut hs₁.extBut D.i1z) (hl1.extBut hs₁.extBut D.l1z) hx fun h₂ h1₂ hs₂ => wpAny_pure ?_)
    have hTO₂ : IsPair h₂ TO a b := hs₂.extBut _ _ D.TOi1 (hs₁.extBut _ _ D.TOz hTO)
    refine wpAny_bind (wpAny_seqItems hTO₂ rfl ?_)
    refine wpAny_bind (wpAny_updateSeq_pair (s := { s with heap := h₂ }) hTO₂ fun h₃ hTO₃ hs₃ => ?_)
    replace hTO₃ : IsPair h₃ TO x b := hTO₃
    refine wpAny_bind (wpAny_letGo (wpAny_pure ?_))
    refine wpAny_bind (wpAny_bind (wpAny_onRaise ?_))
    show wpAny _ _ (Builtin.SmallTypes.nextOf (.ref i2) >>= _) _ _ _
    refine wpAny_bind (RZ.nextOf_tuple_item (s := { s with heap := h₃ }) (((h2.extBut hs₁.extBut D.i2z).extBut hs₂.extBut D.i12.symm).extBut hs₃.extBut D.TOi2.symm)
      (((hl2.extBut hs₁.extBut D.l2z).extBut hs₂.extBut D.l2i1).extBut hs₃.extBut D.l2TO) hy fun h₄ h2₄ hs₄ => wpAny_pure ?_)
    have hTO₄ : IsPair h₄ TO x b := hs₄.extBut _ _ D.TOi2 hTO₃
    refine wpAny_bind (wpAny_seqItems hTO₄ rfl ?_)
    refine wpAny_bind (wpAny_updateSeq_pair (s := { s with heap := h₄ }) hTO₄ fun h₅ hTO₅ hs₅ => ?_)
    replace hTO₅ : IsPair h₅ TO x y := hTO₅
    refine wpAny_bind (wpAny_letGo (wpAny_pure (wpAny_pure ?_)))
    refine wpAny_bind (wpAny_seqItems hTO₅ rfl ?_)
    refine wpAny_bind (wpAny_newTuple ?_)
    have hsz : h₅.objs.size = s.heap.objs.size := by rw [hs₅.1, hs₄.1, hs₃.1, hs₂.1, hs₁.1]
    have hz₅ : ZipAt h₅ z TI TO .ellipsis f := hs₅.extBut _ _ D.TOz.symm (hs₄.extBut _ _ D.i2z.symm (hs₃.extBut _ _ D.TOz.symm (hs₂.extBut _ _ D.i1z.symm hz₁)))
    have hk₅ : ∀ c o, c ≠ z → c ≠ TO → c ≠ i1 → c ≠ i2 → s.heap.get? c = some o → h₅.get? c = some o := fun c o c1 c2 c3 c4 e =>
      hs₅.extBut _ _ c2 (hs₄.extBut _ _ c4 (hs₃.extBut _ _ c2 (hs₂.extBut _ _ c3 (hs₁.extBut _ _ c1 e))))
    have h1₅ : h₅.IsTupleIter i1 l1 (k1 + 1) := ((h1₂.extBut hs₃.extBut D.TOi1.symm).extBut hs₄.extBut D.i12).extBut hs₅.extBut D.TOi1.symm
    have h2₅ : h₅.IsTupleIter i2 l2 (k2 + 1) := h2₄.extBut hs₅.extBut D.TOi2.symm
    have hzlt : z < h₅.objs.size := Heap.lt_size hz₅
    show wpAny _ _ (Builtin.SmallTypes.ownedTupleHandOut (.ref z) (.ref h₅.objs.size) >>= _) _ _ _
    refine wpAny_bind ?_
    unfold Builtin.SmallTypes.ownedTupleHandOut
    have hz₆ : ZipAt (h₅.push { cls := .type "tuple", data := .seq #[x, y] }) z TI TO .ellipsis f := Heap.get?_push_of_some _ hz₅
    refine wpAny_bind (wpAny_setField_rec hz₆ (by simp) fun h₇ hz₇ hs₇ => ?_)
    replace hz₇ : ZipAt h₇ z TI TO (rawInt h₅.objs.size) f := hz₇
    refine wpAny_setField_rec (s := { s with heap := h₇ }) hz₇ (by simp) fun h₈ hz₈ hs₈ => ?_
    replace hz₈ : ZipAt h₈ z TI TO (rawInt h₅.objs.size) false := hz₈
    have up : ∀ c o, c ≠ z → h₅.get? c = some o → h₈.get? c = some o := fun c o c1 e => hs₈.extBut _ _ c1 (hs₇.extBut _ _ c1 (Heap.get?_push_of_some _ e))
    have hT₈ : IsPair h₈ h₅.objs.size x y := hs₈.extBut _ _ (Nat.ne_of_gt hzlt) (hs₇.extBut _ _ (Nat.ne_of_gt hzlt) (Heap.get?_push_size _ rfl))
    have hz8 : h₈.objs.size = h₅.objs.size + 1 := by rw [hs₈.1, hs₇.1, Heap.size_push]
    rw [hsz] at hz₈ hT₈ hz8
    refine wpAny_pure ⟨_, rfl, ?_⟩
    show Q (.ref h₅.objs.size) _
    rw [hsz]
    exact hQ h₈ ⟨⟨_, _, hz₈, .inr ⟨_, rfl⟩⟩, ⟨x, y, up _ _ D.TOz hTO₅⟩, h1₅.at fun o e => up _ o D.i1z e, h2₅.at fun o e => up _ o D.i2z e, hT₈, hz8, fun c o c1 c2 c3 c4 e => up c o c1 (hk₅ c o c1 c2 c3 c4 e)⟩
  ·
    simp only [Bool.false_eq_true, if_false]
    refine wpAny_bind ?_
    rw [← Array.forIn_toList]
    simp only [List.forIn_cons, List.forIn_nil]
    refine wpAny_bind (wpAny_bind (wpAny_holding ?_))
    show wpAny _ _ (Builtin.SmallTypes.nextOf (.ref i1) >>= _) _ _ _
    refine wpAny_bind (RZ.nextOf_tuple_item (s := { s with heap := h₁ }) (h1.extBut hs₁.extBut D.i1z) (hl1.extBut hs₁.extBut D.l1z) hx fun h₂ h1₂ hs₂ => wpAny_pure ?_)
    refine wpAny_pure ?_
    refine wpAny_bind (wpAny_bind (wpAny_holding ?_))
    show wpAny _ _ (Builtin.SmallTypes.nextOf (.ref i2) >>= _) _ _ _
    refine wpAny_bind (RZ.nextOf_tuple_item (s := { s with heap := h₂ }) ((h2.extBut hs₁.extBut D.i2z).extBut hs₂.extBut D.i12.symm) ((hl2.extBut hs₁.extBut D.l2z).extBut hs₂.extBut D.l2i1) hy fun h₃ h2₃ hs₃ => wpAny_pure ?_)
    refine wpAny_pure (wpAny_pure ?_)
    show wpAny _ _ (newTuple [x, y] >>= _) _ _ _
    refine wpAny_bind (wpAny_newTuple ?_)
    have hsz : h₃.objs.size = s.heap.objs.size := by rw [hs₃.1, hs₂.1, hs₁.1]
    have hz₃ : ZipAt h₃ z TI TO c true := hs₃.extBut _ _ D.i2z.symm (hs₂.extBut _ _ D.i1z.symm hz₁)
    have hk : ∀ c o, c ≠ z → c ≠ i1 → c ≠ i2 → s.heap.get? c = some o → h₃.get? c = some o := fun c o c1 c2 c3 e => hs₃.extBut _ _ c3 (hs₂.extBut _ _ c2 (hs₁.extBut _ _ c1 e))
    have h1₃ : h₃.IsTupleIter i1 l1 (k1 + 1) := h1₂.extBut hs₃.extBut D.i12
    refine wpAny_pure ⟨_, rfl, ?_⟩
    show Q (.ref h₃.objs.size) _
    have hp : IsPair (h₃.push { cls := .type "tuple", data := .seq #[x, y] }) h₃.objs.size x y := Heap.get?_push_size _ rfl
    have hz4 : (h₃.push { cls := .type "tuple", data := .seq #[x, y] }).objs.size = h₃.objs.size + 1 := Heap.size_push ..
    rw [hsz] at hp hz4 ⊢
    exact hQ _ ⟨⟨c, true, Heap.get?_push_of_some _ hz₃, hc⟩, ⟨a, b, Heap.get?_push_of_some _ (hk _ _ D.TOz D.TOi1 D.TOi2 hTO)⟩, h1₃.at fun o e => Heap.get?_push_of_some _ e, h2₃.at fun o e => Heap.get?_push_of_some _ e, hp, hz4, fun c o c1 _ c2 c3 e => Heap.get?_push_of_some _ (hk c o c1 c2 c3 e)⟩
theorem zipN_end {z TI TO i1 i2 l1 l2 : Addr} {c : Value} {f : Bool} {k1 k2 : Nat} {xs ys : Array Value} {a b : Value} {Q : Fin → Shared → Prop} (hh : A.handled = none) (D : ZipApart z TI TO i1 i2 l1 l2)
    (hz : ZipAt s.heap z TI TO c f) (hc : c = .none ∨ ∃ T : Addr, c = rawInt T) (hTI : IsPair s.heap TI (.ref i1) (.ref i2)) (hTO : IsPair s.heap TO a b)
    (h1 : s.heap.IsTupleIter i1 l1 k1) (h2 : s.heap.IsTupleIter i2 l2 k2) (hl1 : s.heap.IsTuple l1 xs) (hl2 : s.heap.IsTuple l2 ys) (hend : xs[k1]? = none ∨ ys[k2]? = none)
    (hE : ∀ h' e, (∀ c o, c ≠ z → c ≠ TO → c ≠ i1 → c ≠ i2 → s.heap.get? c = some o → h'.get? c = some o) → (∃ o, h'.get? e = some o ∧ o.cls = .type "StopIteration") → E (.ref e) { s with heap := h' }) :
    wpAny (model prog w) A (Builtin.«zip.__next__» ⟨[.ref z], []⟩) Q E s := by
  show wpAny _ _ (field (.ref z) 2 >>= _) _ _ _
  refine wpAny_bind (wpAny_field hz rfl (x := .bool false) rfl ?_)
  show wpAny _ _ (field (.ref z) 3 >>= _) _ _ _
  refine wpAny_bind (wpAny_field hz rfl (x := .ref TI) rfl ?_)
  refine wpAny_bind (wpAny_seqItems hTI rfl ?_)
  show wpAny _ _ (Builtin.SmallTypes.ownedTupleIsFree (.ref z) >>= _) _ _ _
  refine wpAny_bind (owned_ways hz hc ?_ fun h₁ hz₁ hs₁ => ?_)
  · simp only [if_true]
    refine wpAny_bind (wpAny_rule ?_)
    refine wpAny_bind (wpAny_field hz rfl (x := .ref TO) rfl ?_)
    refine wpAny_bind (wpAny_setField_rec hz (by simp) fun h₁ hz₁ hs₁ => ?_)
    replace hz₁ : ZipAt h₁ z TI TO .ellipsis f := hz₁
    refine wpAny_bind ?_
    simp only [List.zipIdx_cons, List.zipIdx_nil, List.forIn_cons, List.forIn_nil]
    refine wpAny_bind (wpAny_bind (wpAny_onRaise ?_))
    show wpAny _ _ (Builtin.SmallTypes.nextOf (.ref i1) >>= _) _ _ _
    cases hx : xs[k1]? with
    | none =>
      refine wpAny_bind (RZ.nextOf_tuple_end (s := { s with heap := h₁ }) hh (h1.extBut hs₁.extBut D.i1z) (hl1.extBut hs₁.extBut D.l1z) hx fun h₂ e hs₂ he => ?_)
      obtain ⟨oe, hoe, hce⟩ := he
      have hz₂ : ZipAt h₂ z TI TO .ellipsis f := hs₂ _ _ D.i1z.symm hz₁
      have hez : e ≠ z := fun x => by subst x; rw [hz₂] at hoe; cases hoe; simp at hce
      refine wpAny_setField_rec (s := { s with heap := h₂ }) hz₂ (by simp) fun h₃ _ hs₃ => hE h₃ e (fun c o c1 _ c3 _ x => hs₃.extBut _ _ c1 (hs₂ _ _ c3 (hs₁.extBut _ _ c1 x))) ⟨oe, hs₃.extBut _ _ hez hoe, hce⟩
    | some x =>
      have hy : ys[k2]? = none := by rcases hend with h | h; rw [hx] at h; cases h; exact h
      refine wpAny_bind (RZ.nextOf_tuple_item (s := { s with heap := h₁ }) (h1.extBut hs₁.extBut D.i1z) (hl1.extBut hs₁.extBut D.l1z) hx fun h₂ h1₂ hs₂ => wpAny_pure ?_)
      have hTO₂ : IsPair h₂ TO a b := hs₂.extBut _ _ D.TOi1 (hs₁.extBut _ _ D.TOz hTO)
      refine wpAny_bind (wpAny_seqItems hTO₂ rfl ?_)
      refine wpAny_bind (wpAny_updateSeq_pair (s := { s with heap := h₂ }) hTO₂ fun h₃ hTO₃ hs₃ => ?_)
      refine wpAny_bind (wpAny_letGo (wpAny_pure ?_))
      refine wpAny_bind (wpAny_bind (wpAny_onRaise ?_))
      show wpAny _ _ (Builtin.SmallTypes.nextOf (.ref i2) >>= _) _ _ _
      refine wpAny_bind (RZ.nextOf_tuple_end (s := { s with heap := h₃ }) hh (((h2.extBut hs₁.extBut D.i2z).extBut hs₂.extBut D.i12.symm).extBut hs₃.extBut D.TOi2.symm)
        (((hl2.extBut hs₁.extBut D.l2z).extBut hs₂.extBut D.l2i1).extBut hs₃.extBut D.l2TO) hy fun h₄ e hs₄ he => ?_)
      obtain ⟨oe, hoe, hce⟩ := he
      have hz₄ : ZipAt h₄ z TI TO .ellipsis f := hs₄ _ _ D.i2z.symm (hs₃.extBut _ _ D.TOz.symm (hs₂.extBut _ _ D.i1z.symm hz₁))
      have hez : e ≠ z := fun x => by subst x; rw [hz₄] at hoe; cases hoe; simp at hce
      refine wpAny_setField_rec (s := { s with heap := h₄ }) hz₄ (by simp) fun h₅ _ hs₅ => hE h₅ e (fun c o c1 c2 c3 c4 x => hs₅.extBut _ _ c1 (hs₄ _ _ c4 (hs₃.extBut _ _ c2 (hs₂.extBut _ _ c3 (hs₁.extBut _ _ c1 x))))) ⟨oe, hs₅.extBut _ _ hez hoe, hce⟩
  · simp only [Bool.false_eq_true, if_false]
    refine wpAny_bind ?_
    rw [← Array.forIn_toList]
    simp only [List.forIn_cons, List.forIn_nil]
    refine wpAny_bind (wpAny_bind (wpAny_holding ?_))
    show wpAny _ _ (Builtin.SmallTypes.nextOf (.ref i1) >>= _) _ _ _
    cases hx : xs[k1]? with
    | none =>
      refine wpAny_bind (RZ.nextOf_tuple_end (s := { s with heap := h₁ }) hh (h1.extBut hs₁.extBut D.i1z) (hl1.extBut hs₁.extBut D.l1z) hx fun h₂ e hs₂ he => ?_)
      exact hE h₂ e (fun c o c1 _ c2 _ x => hs₂ _ _ c2 (hs₁.extBut _ _ c1 x)) he
    | some x =>
      have hy : ys[k2]? = none := by rcases hend with h | h; rw [hx] at h; cases h; exact h
      refine wpAny_bind (RZ.nextOf_tuple_item (s := { s with heap := h₁ }) (h1.extBut hs₁.extBut D.i1z) (hl1.extBut hs₁.extBut D.l1z) hx fun h₂ h1₂ hs₂ => wpAny_pure ?_)
      refine wpAny_pure ?_
      refine wpAny_bind (wpAny_bind (wpAny_holding ?_))
      show wpAny _ _ (Builtin.SmallTypes.nextOf (.ref i2) >>= _) _ _ _
      refine wpAny_bind (RZ.nextOf_tuple_end (s := { s with heap := h₂ }) hh ((h2.extBut hs₁.extBut D.i2z).extBut hs₂.extBut D.i12.symm) ((hl2.extBut hs₁.extBut D.l2z).extBut hs₂.extBut D.l2i1) hy fun h₃ e hs₃ he => ?_)
      exact hE h₃ e (fun c o c1 _ c2 c3 x => hs₃ _ _ c3 (hs₂.extBut _ _ c2 (hs₁.extBut _ _ c1 x))) he
theorem pyNext_zipN_item {z TI TO i1 i2 l1 l2 : Addr} {c : Value} {f : Bool} {k1 k2 : Nat} {xs ys : Array Value} {x y a b : Value} {Q : Option Value → Shared → Prop} (D : ZipApart z TI TO i1 i2 l1 l2)
    (hz : ZipAt s.heap z TI TO c f) (hc : c = .none ∨ ∃ T : Addr, c = rawInt T) (hTI : IsPair s.heap TI (.ref i1) (.ref i2)) (hTO : IsPair s.heap TO a b)
    (h1 : s.heap.IsTupleIter i1 l1 k1) (h2 : s.heap.IsTupleIter i2 l2 k2) (hl1 : s.heap.IsTuple l1 xs) (hl2 : s.heap.IsTuple l2 ys) (hx : xs[k1]? = some x) (hy : ys[k2]? = some y)
    (hQ : ∀ h', ZipGone s.heap h' z TI TO i1 i2 l1 l2 k1 k2 x y → Q (some (.ref s.heap.objs.size)) { s with heap := h' }) :
    wpAny (model prog w) A (pyNext (.ref z)) Q E s := by
  have hT : s.TypeIs (.ref z) "zip" := ⟨_, hz, rfl⟩
  unfold pyNext
  exact wpAny_bind (wpAny_attempt (wpAny_callSpecial?_slot (name := Str.ofString "__next__") hT PySem.F.slot_zip_next
    (wpAny_call_entry PySem.F.slot_zip_next hT PySem.F.entry_zip_next
      (zipN_item D hz hc hTI hTO h1 h2 hl1 hl2 hx hy fun h' g => wpAny_pure (hQ h' g)) (PySem.F.args_zip_next_1 _))))
theorem pyNext_zipN_end {z TI TO i1 i2 l1 l2 : Addr} {c : Value} {f : Bool} {k1 k2 : Nat} {xs ys : Array Value} {a b : Value} {Q : Option Value → Shared → Prop} (hh : A.handled = none) (D : ZipApart z TI TO i1 i2 l1 l2)
    (hz : ZipAt s.heap z TI TO c f) (hc : c = .none ∨ ∃ T : Addr, c = rawInt T) (hTI : IsPair s.heap TI (.ref i1) (.ref i2)) (hTO : IsPair s.heap TO a b)
    (h1 : s.heap.IsTupleIter i1 l1 k1) (h2 : s.heap.IsTupleIter i2 l2 k2) (hl1 : s.heap.IsTuple l1 xs) (hl2 : s.heap.IsTuple l2 ys) (hend : xs[k1]? = none ∨ ys[k2]? = none)
    (hQ : ∀ h', (∀ c o, c ≠ z → c ≠ TO → c ≠ i1 → c ≠ i2 → s.heap.get? c = some o → h'.get? c = some o) → Q none { s with heap := h' }) : wpAny (model prog w) A (pyNext (.ref z)) Q E s := by
  have hTy : s.TypeIs (.ref z) "zip" := ⟨_, hz, rfl⟩
  unfold pyNext
  refine wpAny_bind (wpAny_attempt (wpAny_callSpecial?_slot (name := Str.ofString "__next__") hTy PySem.F.slot_zip_next
    (wpAny_call_entry PySem.F.slot_zip_next hTy PySem.F.entry_zip_next (zipN_end hh D hz hc hTI hTO h1 h2 hl1 hl2 hend fun h' e hk he => ?_) (PySem.F.args_zip_next_1 _))))
  obtain ⟨o, ho, hcls⟩ := he
  refine wpAny_bind (wpAny_isInstance (T := "StopIteration") (b := true) ⟨o, ho, hcls⟩ isSubtype_stop ?_)
  exact wpAny_pure (hQ _ hk)
end
end LwR
set_option maxHeartbeats 4000000
namespace LwR
open PySem PySem.Spec PyProof.Rows L2
theorem turn_zipN {P : Program} {w : World} {K : PySem.W.Frag} {x : Str} {px : Pos} {a b z TI TO i1 i2 : Addr} (D : ZipApart z TI TO i1 i2 a b) :
    Turn P w K (.Name x px) (RZ.ItzT K a b) [z, TI, TO, i1, i2] z (fun i h => (∃ c f, ZipAt h z TI TO c f ∧ (c = .none ∨ ∃ T : Addr, c = rawInt T)) ∧ IsPair h TI (.ref i1) (.ref i2) ∧ (∃ x y, IsPair h TO x y) ∧ h.IsTupleIter i1 a i ∧ h.IsTupleIter i2 b i) where
  mem := by simp
  obj := fun i h st c hc => by
    obtain ⟨⟨c0, f, hz, _⟩, hTI, ⟨x, y, hTO⟩, ⟨o1, e1, _, d1⟩, ⟨o2, e2, _, d2⟩⟩ := st
    have e' : c = z ∨ c = TI ∨ c = TO ∨ c = i1 ∨ c = i2 := by simpa using hc
    rcases e' with q | q | q | q | q
    · rw [q]; exact ⟨_, hz, fun v q => nomatch q⟩
    · rw [q]; exact ⟨_, hTI, fun v q => nomatch q⟩
    · rw [q]; exact ⟨_, hTO, fun v q => nomatch q⟩
    · rw [q]; exact ⟨o1, e1, fun v q => by rw [d1] at q; cases q⟩
    · rw [q]; exact ⟨o2, e2, fun v q => by rw [d2] at q; cases q⟩
  keep := fun i h h' st k => by
    obtain ⟨⟨c0, f, hz, hc0⟩, hTI, ⟨x, y, hTO⟩, h1, h2⟩ := st
    exact ⟨⟨c0, f, k z (by simp) _ hz, hc0⟩, k TI (by simp) _ hTI, ⟨x, y, k TO (by simp) _ hTO⟩, h1.at fun o q => k i1 (by simp) o q, h2.at fun o q => k i2 (by simp) o q⟩
  item := by
    intro X hP hw hK hc i pins s σ H E I hf st hg
    subst hP hw hK
    obtain ⟨⟨c0, f, hz, hc0⟩, hTI, ⟨x0, y0, hTO⟩, h1, h2⟩ := st
    obtain ⟨xs, ys, x, y, hqx, hqy, hx, hy⟩ := hg
    obtain ⟨its, rv, p, _⟩ := I.tuple hqx
    obtain ⟨its2, rv2, p2, _⟩ := I.tuple hqy
    obtain ⟨u, hu, ru⟩ := rv.get hx
    obtain ⟨u2, hu2, ru2⟩ := rv2.get hy
    have hzl : z < s.heap.objs.size := Heap.lt_size hz
    refine pyNext_zipN_item D hz hc0 hTI hTO h1 h2 p p2 (x := u) (y := u2) (by simpa using hu) (by simpa using hu2) fun h' G => ?_
    refine ⟨_, rfl, ?_⟩
    show wpAny _ _ (pure ()) _ _ _
    refine wpAny_pure ?_
    have new : ObjOk X.prog X.w (upd H s.heap.objs.size (.tup [x, y])) h' s.heap.objs.size (.tup [x, y]) :=
      ⟨by show 2 ≤ sizeLine; decide, [u, u2], .cons ru (.cons ru2 .nil), ⟨_, G.new, rfl, _, rfl⟩⟩
    have I1 : Inv X pins σ (upd H s.heap.objs.size (.tup [x, y])) { s with heap := h' } :=
      I.turnedNew (t' := s.toks) (ch := [z, TI, TO, i1, i2]) (fun c o hb q => G.keep c o (fun q' => hb (by simp [q'])) (fun q' => hb (by simp [q'])) (fun q' => hb (by simp [q'])) (fun q' => hb (by simp [q'])) q) hf (Nat.le_refl _) new
    refine ⟨.ref s.heap.objs.size, _, I1, rfl, ⟨_, x, y, rfl, I.hok.fresh (Nat.le_refl _), rfl, fun l hl => by rw [I.tuple_inj hl hqx]; exact hx, fun l hl => by rw [I.tuple_inj hl hqy]; exact hy⟩, ⟨G.zip, G.keep _ _ D.TIz D.TITO D.TIi1 D.TIi2 hTI, G.out, G.it1, G.it2⟩, fun c hcm => ?_⟩
    have hlt : c < s.heap.objs.size := by
      have e' : c = z ∨ c = TI ∨ c = TO ∨ c = i1 ∨ c = i2 := by simpa using hcm
      rcases e' with q | q | q | q | q
      · rw [q]; exact hzl
      · rw [q]; exact Heap.lt_size hTI
      · rw [q]; exact Heap.lt_size hTO
      · rw [q]; obtain ⟨_, e1, _⟩ := h1; exact Heap.lt_size e1
      · rw [q]; obtain ⟨_, e2, _⟩ := h2; exact Heap.lt_size e2
    rw [upd_ne (Nat.ne_of_lt hlt)]
    exact (hf c hcm).1
  done := by
    intro X hP hw hK hc i pins s σ H E I hf st hg
    subst hP hw hK
    obtain ⟨⟨c0, f, hz, hc0⟩, hTI, ⟨x0, y0, hTO⟩, h1, h2⟩ := st
    obtain ⟨xs, ys, hqx, hqy, hend⟩ := hg
    obtain ⟨its, rv, p, _⟩ := I.tuple hqx
    obtain ⟨its2, rv2, p2, _⟩ := I.tuple hqy
    have l1 := rv.length
    have l2 := rv2.length
    have he : its.toArray[i]? = none ∨ its2.toArray[i]? = none := by
      rcases hend with q | q
      · exact .inl (by simp; omega)
      · exact .inr (by simp; omega)
    exact pyNext_zipN_end (I.ok.hd hc) D hz hc0 hTI hTO h1 h2 p p2 he fun h' hk => ⟨rfl, I.turnedL (t' := s.toks) (ch := [z, TI, TO, i1, i2]) (fun c o hb q =>
      hk c o (fun q' => hb (by simp [q'])) (fun q' => hb (by simp [q'])) (fun q' => hb (by simp [q'])) (fun q' => hb (by simp [q'])) q) hf⟩
  self := fun A i s Q E st h => by
    obtain ⟨⟨c0, f, hz, _⟩, _⟩ := st
    have hT : s.TypeIs (.ref z) "zip" := ⟨_, hz, rfl⟩
    refine wpAny_pyIter_slot hT PySem.F.slot_zip_iter (wpAny_call_entry PySem.F.slot_zip_iter hT PySem.F.entry_zip_iter ?_ (PySem.F.args_zip_iter_1 _))
    show wpAny _ _ (ret (.ref z)) _ _ s
    exact wpAny_pure ⟨_, rfl, "zip", _, hT, PySem.F.slot_zip_next.lookup, h⟩
def iZipN (K : PySem.W.Frag) (ta : TA) : TI := fun σ H R => ta σ H fun vs H1 => ∃ a b xs ys, vs = [.ref a, .ref b] ∧ SqT K H1 a xs ∧ SqT K H1 b ys ∧ R (RZ.ItzT K a b) H1
theorem pi_zipN {X : Cx} {e e2 : Expr} {ta : TA} {x : Str} {px p pos : Pos} (hg : Gl X "zip") (hm : X.mg "zip" = none) (ha : PA X [e, e2] ta)
    (hs : starEach [e, e2] X.env = [(false, eval e X.env), (false, eval e2 X.env)] := by rfl) (hs2 : starEach [e2] X.env = [(false, eval e2 X.env)] := by rfl) :
    PI X (.Name x px) (.Call (.Name "zip" p) [e, e2] [] pos) (iZipN X.K ta) := by
  refine ⟨fun pins s σ H R I h => ?_⟩
  refine Call_ (ld_blt I hg hm boot_zip (PyProof.Rows.callWith_type1 (thn (ha.run pos pins s σ H _ I h) fun us s1 ⟨vs, H1, I1, r1, q1⟩ => ?_) (by rw [hs, hs2]) (by rw [hs2]; rfl)))
  obtain ⟨a, b, xs, ys, ev, hqx, hqy, q⟩ := q1
  subst ev
  cases r1 with
  | cons r rr =>
    cases rr with
    | cons r' rr =>
      cases rr
      cases r
      cases r'
      have fresh5 : ∀ c, c ∈ [s1.heap.objs.size + 4, s1.heap.objs.size + 2, s1.heap.objs.size + 3, s1.heap.objs.size, s1.heap.objs.size + 1] → FpOk X pins H1 c := fun c hcm => by
        have e' : c = s1.heap.objs.size + 4 ∨ c = s1.heap.objs.size + 2 ∨ c = s1.heap.objs.size + 3 ∨ c = s1.heap.objs.size ∨ c = s1.heap.objs.size + 1 := by simpa using hcm
        have hle : s1.heap.objs.size ≤ c := by
          rcases e' with z | z | z | z | z
          · rw [z]; exact Nat.le_add_right _ _
          · rw [z]; exact Nat.le_add_right _ _
          · rw [z]; exact Nat.le_add_right _ _
          · rw [z]; exact Nat.le_refl _
          · rw [z]; exact Nat.le_add_right _ _
        exact I1.fpOk hle (I1.hok.fresh hle)
      obtain ⟨its, rv, p1, _⟩ := I1.tuple hqx
      obtain ⟨its2, rv2, p2, _⟩ := I1.tuple hqy
      obtain ⟨o1, ho1, _⟩ := id p1
      obtain ⟨o2, ho2, _⟩ := id p2
      refine RZ.call_zipT (show s1.heap.IsTuple a its.toArray from p1) (show s1.heap.IsTuple b its2.toArray from p2) fun h' hz hTI hTO h1 h2 hsz hk => wpAny_pyIter_zip hz ?_
      have I2 : Inv X pins σ H1 { s1 with heap := h' } := I1.kept (t' := s1.toks) hk
      exact ⟨s1.heap.objs.size + 4, [s1.heap.objs.size + 4, s1.heap.objs.size + 2, s1.heap.objs.size + 3, s1.heap.objs.size, s1.heap.objs.size + 1], _, _, H1, rfl, I2, turn_zipN (PySem.W.ktu_apart s1.heap.objs.size a b (Heap.lt_size ho1) (Heap.lt_size ho2)), ⟨⟨.none, false, hz, .inl rfl⟩, hTI, ⟨_, _, hTO⟩, h1, h2⟩, fresh5, q⟩
theorem meets_enum_newT (l : Addr) (items : Array Value) (n : Nat) (dct : Option Addr) (sl : Array (Option Value)) :
    Meets (Builtin.«enumerate.__new__» ⟨[.type "enumerate", .ref l], []⟩) (fun _ R s => s.heap.get? l = some { cls := .type "tuple", dict := dct, data := .seq items n, slots := sl } ∧
      R (.ok (.ret (.ref (s.heap.push { cls := .type "tuple_iterator", data := .fields #[.ref l, .int 0 0] }).objs.size)))
        { s with heap := (s.heap.push { cls := .type "tuple_iterator", data := .fields #[.ref l, .int 0 0] }).push { cls := .type "enumerate", data := .fields #[.none, .bool false, .ref s.heap.objs.size, rawInt 0, .none, .none] } }) :=
  .of_wp fun prog w A R s h => by
    obtain ⟨hp, g, d, tk, os⟩ := s; obtain ⟨hl, h⟩ := h
    have hsub := sub_enumerate
    have hL : Heap.IsTuple (Shared.heap ⟨hp, g, d, tk, os⟩) l items := ⟨_, hl, rfl, n, rfl⟩
    wp_walk using AutoSeq1.wpAny_loadPart' hl
    refine wpAny_stack_any fun st => wpAny_pure ?_
    split
    · rename_i c _ _ _ _ _
      cases (c == Value.type "enumerate")
      · wp_walk using AutoSeq1.wpAny_loadPart' hl, wpAny_pyIter_tuple hL
        exact ⟨_, rfl, h⟩
      · wp_walk using AutoSeq1.wpAny_loadPart' hl, wpAny_pyIter_tuple hL
        exact ⟨_, rfl, h⟩
    · wp_walk using AutoSeq1.wpAny_loadPart' hl, wpAny_pyIter_tuple hL
      exact ⟨_, rfl, h⟩
section
variable {prog : Program} {w : World} {A : Around} {E : Value → Shared → Prop} {s : Shared}
theorem call_enumT {l : Addr} {items : Array Value} {Q : Value → Shared → Prop} (hL : IsTup s.heap l items)
    (h : ∀ h', IsEnum h' (s.heap.objs.size + 1) s.heap.objs.size 0 .none → h'.IsTupleIter s.heap.objs.size l 0 → h'.objs.size = s.heap.objs.size + 2 →
      (∀ b o, s.heap.get? b = some o → h'.get? b = some o) → Q (.ref (s.heap.objs.size + 1)) { s with heap := h' }) :
    wpAny (model prog w) A (call (.type "enumerate") [.ref l]) Q E s := by
  obtain ⟨⟨c, dct, dt, sl⟩, hl, hc, n, hd⟩ := hL
  replace hc : c = .type "tuple" := hc
  replace hd : dt = .seq items n := hd
  subst hc hd
  refine callType_new PySem.F.called_enumerate (by decide) (PySem.F.typeCall_enumerate_1 _) (PySem.F.newCall_enumerate_1 _) (fun obj => PySem.F.args_object_init_2 obj _) PySem.F.entry_enumerate_new
    (meets_enum_newT l items n dct sl) ⟨hl, ?_⟩
  have hz : (s.heap.push { cls := .type "tuple_iterator", data := .fields #[.ref l, .int 0 0] }).objs.size = s.heap.objs.size + 1 := Heap.size_push ..
  show _ ∧ _
  rw [hz]
  have he : IsEnum ((s.heap.push { cls := .type "tuple_iterator", data := .fields #[.ref l, .int 0 0] }).push
      { cls := .type "enumerate", data := .fields #[.none, .bool false, .ref s.heap.objs.size, rawInt 0, .none, .none] }) (s.heap.objs.size + 1) s.heap.objs.size 0 .none := by
    have := Heap.get?_push_size (s.heap.push { cls := .type "tuple_iterator", data := .fields #[.ref l, .int 0 0] })
      (o := { cls := .type "enumerate", data := .fields #[.none, .bool false, .ref s.heap.objs.size, rawInt 0, .none, .none] }) rfl
    rw [hz] at this; exact this
  refine ⟨⟨_, he, rfl⟩, h _ he ⟨_, Heap.get?_push_of_some _ (Heap.get?_push_size _ rfl), rfl, rfl⟩ (by rw [Heap.size_push, hz]) fun b o x => Heap.get?_push_of_some _ (Heap.get?_push_of_some _ x)⟩
end
def IteT (K : PySem.W.Frag) (a : Addr) : It :=
  ⟨fun i H => ∃ (xs : List V) (x : V), SqT K H a xs ∧ xs[i]? = some x, fun i H v H' => ∃ T x, v = .ref T ∧ H T = none ∧ H' = upd H T (.tup [.int (i : Nat), x]) ∧ ∀ xs, SqT K H a xs → xs[i]? = some x, fun i H => ∃ xs : List V, SqT K H a xs ∧ xs.length = i⟩
theorem turn_enumT {P : Program} {w : World} {K : PySem.W.Frag} {elts : List Expr} {kk : Nat} {tpos : Pos} (a e it : Addr) :
    Turn P w K (.Tuple elts kk tpos) (IteT K a) [e, it] e (fun i h => (∃ old, IsEnum h e it ((i : Nat) : Int) old) ∧ h.IsTupleIter it a i ∧ e ≠ it) where
  mem := by simp
  obj := fun i h st b hb => by
    obtain ⟨⟨old, he⟩, ⟨o, ho, hc, hd⟩, _⟩ := st
    have e' : b = e ∨ b = it := by simpa using hb
    rcases e' with z | z
    · rw [z]; exact ⟨_, he, fun v q => nomatch q⟩
    · rw [z]; exact ⟨o, ho, fun v q => by rw [hd] at q; cases q⟩
  keep := fun i h h' st k => let ⟨⟨old, he⟩, hi, hne⟩ := st; ⟨⟨old, k e (by simp) _ he⟩, hi.at fun o q => k it (by simp) o q, hne⟩
  item := by
    intro X hP hw hK hc i pins s σ H E I hf st hg
    subst hP hw hK
    obtain ⟨⟨old, he⟩, hit, hne⟩ := st
    obtain ⟨xs, x, hq, hx⟩ := hg
    obtain ⟨its, rv, p, hz⟩ := I.tuple hq
    obtain ⟨u, hu, ru⟩ := rv.get hx
    have hel : e < s.heap.objs.size := Heap.lt_size he
    have hil : it < s.heap.objs.size := by obtain ⟨_, q, _⟩ := hit; exact Heap.lt_size q
    have hai : a ≠ it := fun z => by
      obtain ⟨o1, e1, c1, _⟩ := id p
      obtain ⟨o2, e2, c2, _⟩ := id hit
      rw [z, e2] at e1; cases e1
      rw [c2] at c1; exact absurd c1 (by simp)
    have hea : e ≠ a := fun z => by
      obtain ⟨o1, e1, c1, _⟩ := id p
      rw [← z, he] at e1; cases e1
      exact absurd c1 (by simp)
    have hlt : i < its.toArray.size := by
      have := (List.getElem?_eq_some_iff.mp hu).1
      rw [List.size_toArray]; exact this
    have D := Draws.tuple (prog := X.prog) (w := X.w) (A := X.A.in1) (I.ok.hd hc) it a hai its.toArray
    refine wpAny_pyNext_enum_itemC D he ⟨hit, p⟩ hlt hne (by simp [hne, hea]) fun y h' tk hy ho hit' hT hsz hk => ?_
    have ey : y = u := by
      have hu' : its.toArray[i]? = some u := by simpa using hu
      rw [hu'] at hy; exact (Option.some.inj hy).symm
    subst ey
    refine ⟨_, rfl, wpAny_letOwnedTupleGo_enum (s := { s with heap := h', toks := tk + 1 }) ho fun h'' he' sb => ?_⟩
    have hT2 : h''.get? s.heap.objs.size = some { cls := .type "tuple", data := .seq #[.int i tk, y] } := (sb.2 _ (Nat.ne_of_gt hel)).trans hT
    have new : ObjOk X.prog X.w (upd H s.heap.objs.size (.tup [.int (i : Nat), x])) h'' s.heap.objs.size (.tup [.int (i : Nat), x]) :=
      ⟨by show 2 ≤ sizeLine; decide, [.int i tk, y], .cons ⟨_, rfl⟩ (.cons ru .nil), ⟨_, hT2, rfl, _, rfl⟩⟩
    have I1 : Inv X pins σ (upd H s.heap.objs.size (.tup [.int (i : Nat), x])) { s with heap := h'', toks := tk + 1 } :=
      I.turnedNew (ch := [e, it]) (fun b ob hb q => (sb.2 b (fun z => hb (by simp [z]))).trans (hk b ob (fun z => hb (by simp [z])) (fun z => hb (by simp [z])) q)) hf (Nat.le_refl _) new
    refine ⟨.ref s.heap.objs.size, _, I1, rfl, ⟨_, x, rfl, I.hok.fresh (Nat.le_refl _), rfl, fun ys hy => by rw [I.tuple_inj hy hq]; exact hx⟩, ⟨⟨y, ?_⟩, hit'.1.at fun o q => (sb.2 it (Ne.symm hne)).trans q, hne⟩, fun b hb => ?_⟩
    · have e1 : ((i + 1 : Nat) : Int) = (i : Int) + 1 := by omega
      rw [e1]; exact he'
    · have hb' : b < s.heap.objs.size := by
        have e' : b = e ∨ b = it := by simpa using hb
        rcases e' with z | z
        · rw [z]; exact hel
        · rw [z]; exact hil
      rw [upd_ne (Nat.ne_of_lt hb')]
      exact (hf b hb).1
  done := by
    intro X hP hw hK hc i pins s σ H E I hf st hg
    subst hP hw hK
    obtain ⟨⟨old, he⟩, hit, hne⟩ := st
    obtain ⟨xs, hq, hx⟩ := hg
    obtain ⟨its, rv, p, hz⟩ := I.tuple hq
    obtain ⟨f0, f1, f2, f3, f4, f5⟩ := hf it (by simp)
    have hl := rv.length
    have hai : a ≠ it := fun z => by
      obtain ⟨o1, e1, c1, _⟩ := id p
      obtain ⟨o2, e2, c2, _⟩ := id hit
      rw [z, e2] at e1; cases e1
      rw [c2] at c1; exact absurd c1 (by simp)
    have D := Draws.tuple (prog := X.prog) (w := X.w) (A := X.A.in1) (I.ok.hd hc) it a hai its.toArray
    have ei : its.toArray.size = i := by rw [List.size_toArray]; omega
    exact wpAny_pyNext_enum_endD D he (by rw [ei]; exact ⟨hit, p⟩) fun h' eb => ⟨rfl, I.turned (t' := s.toks) (fun b o hb q => eb b o hb q) f0 f1 f3 f4 f5⟩
  self := fun A i s Q E st h => let ⟨⟨_, he⟩, _⟩ := st; wpAny_pyIter_enum he h
def iEnumT (K : PySem.W.Frag) (ta : TA) : TI := fun σ H R => ta σ H fun vs H1 => ∃ a xs, vs = [.ref a] ∧ SqT K H1 a xs ∧ R (IteT K a) H1
theorem pi_enumT {X : Cx} {e : Expr} {ta : TA} {p pos tpos : Pos} {elts : List Expr} {kk : Nat} (hg : Gl X "enumerate") (hm : X.mg "enumerate" = none) (ha : PA X [e] ta) (hs : starEach [e] X.env = [(false, eval e X.env)] := by rfl) :
    PI X (.Tuple elts kk tpos) (.Call (.Name "enumerate" p) [e] [] pos) (iEnumT X.K ta) := by
  refine ⟨fun pins s σ H R I h => ?_⟩
  refine Call_ (ld_blt I hg hm boot_enumerate (PyProof.Rows.callWith_type1 (thn (ha.run pos pins s σ H _ I h) fun us s1 ⟨vs, H1, I1, r1, q1⟩ => ?_) hs rfl))
  obtain ⟨a, xs, ex, hq, q⟩ := q1
  subst ex
  cases r1 with
  | cons r rr =>
    cases rr
    cases r
    obtain ⟨its, rv, p', hz⟩ := I1.tuple hq
    refine call_enumT p' fun h' he hit hsz hk => wpAny_pyIter_enum he ?_
    have I2 : Inv X pins σ H1 { s1 with heap := h' } := I1.kept (t' := s1.toks) hk
    refine ⟨s1.heap.objs.size + 1, [s1.heap.objs.size + 1, s1.heap.objs.size], _, _, H1, rfl, I2, turn_enumT a (s1.heap.objs.size + 1) s1.heap.objs.size, ⟨⟨.none, he⟩, hit, Nat.succ_ne_self _⟩, fun b hb => ?_, q⟩
    have e' : b = s1.heap.objs.size + 1 ∨ b = s1.heap.objs.size := by simpa using hb
    have hle : s1.heap.objs.size ≤ b := by
      rcases e' with z | z
      · rw [z]; exact Nat.le_add_right _ _
      · rw [z]; exact Nat.le_refl _
    exact I1.fpOk hle (I1.hok.fresh hle)
theorem for_enumT {K : PySem.W.Frag} {a : Addr} {xs : List V} {g : TG} {tb : TS} {D : Ends} {σ : L2.St} {H : Hp} (Pv : Nat → L2.St → Hp → Prop) (h0 : Pv 0 σ H) (hl : ∀ i σ H, Pv i σ H → SqT K H a xs)
    (hs : ∀ (i : Nat) (x : V) (T : Addr) (σ : L2.St) (H : Hp), xs[i]? = some x → Pv i σ H → H T = none → g (.ref T) σ (upd H T (.tup [.int (i : Nat), x])) fun σ2 H2 => tb { D with nx := Pv (i + 1), ct := Pv (i + 1), bk := D.nx } σ2 H2) (hd : ∀ σ H, Pv xs.length σ H → D.nx σ H) :
    ∃ W : Nat → Nat → L2.St → Hp → Prop, (∃ m, W 0 m σ H) ∧ ∀ i m σ H, W i m σ H →
      ((IteT K a).stop i H ∧ D.nx σ H) ∨ ((IteT K a).go i H ∧ ∃ N : L2.St → Hp → Prop, (∀ σ' H', N σ' H' → ∃ m', m' < m ∧ W (i + 1) m' σ' H') ∧ ∀ v H', (IteT K a).yld i H v H' → g v σ H' fun σ2 H2 => tb { D with nx := N, ct := N, bk := D.nx } σ2 H2) := by
  refine ⟨fun i m σ H => m = xs.length - i ∧ i ≤ xs.length ∧ Pv i σ H, ⟨xs.length, rfl, Nat.zero_le _, h0⟩, ?_⟩
  rintro i m σ H ⟨rfl, hi, p⟩
  have q := hl i σ H p
  by_cases hlt : i < xs.length
  · have hx : xs[i]? = some xs[i] := List.getElem?_eq_getElem hlt
    refine .inr ⟨⟨xs, _, q, hx⟩, Pv (i + 1), fun σ' H' p' => ⟨xs.length - (i + 1), by omega, rfl, hlt, p'⟩, fun v H' y => ?_⟩
    obtain ⟨T, x, rfl, hT, rfl, f⟩ := y
    exact hs i x T σ H (f xs q) p hT
  · have e : i = xs.length := by omega
    subst e
    exact .inl ⟨⟨xs, q, rfl⟩, hd σ H p⟩
end LwR
set_option maxHeartbeats 4000000
namespace LwW
open PySem PySem.Spec PyProof.Rows L2 LwR
def topS (i : Nat) : Stmt := PySem.Challenge.pw_leatwork_k03_whole_equal_trees.main.body.getD i (.Pass ⟨0, 0, 0, 0⟩)
abbrev Nd := Lw.Nd Str
abbrev Gr := List Nd
def TK (H H' : Hp) : Prop := ∀ b xs, H b = some (.tup xs) → H' b = some (.tup xs)
theorem TK.refl (H : Hp) : TK H H := fun _ _ h => h
theorem TK.trans {H H1 H2 : Hp} (a : TK H H1) (b : TK H1 H2) : TK H H2 := fun c o h => b c o (a c o h)
theorem TK.of {H H' : Hp} (s : Same H H') : TK H H' := fun b xs h => s b _ h
theorem same_upd {H : Hp} {p : Addr} {o : HO} (h : H p = none) : Same H (upd H p o) := fun b x e => by
  rw [upd_ne (ne_of_none e h)]
  exact e
def SameBut (s : Addr) (H H' : Hp) : Prop := ∀ b o, b ≠ s → H b = some o → H' b = some o
theorem SameBut.refl (s : Addr) (H : Hp) : SameBut s H H := fun _ _ _ h => h
theorem SameBut.trans {s : Addr} {H H1 H2 : Hp} (a : SameBut s H H1) (b : SameBut s H1 H2) : SameBut s H H2 := fun c o n h => b c o n (a c o n h)
theorem SameBut.of {s : Addr} {H H' : Hp} (h : Same H H') : SameBut s H H' := fun c o _ e => h c o e
theorem sameBut_upd {H : Hp} {p : Addr} {o : HO} : SameBut p H (upd H p o) := fun b x n e => by
  rw [upd_ne n]
  exact e
theorem SameBut.tk {s : Addr} {H H' : Hp} (h : SameBut s H H') {o : HO} (hs : H s = some o) (ho : ∀ xs, o ≠ .tup xs) : TK H H' := fun b xs e => h b _ (fun z => by
  subst z; rw [hs] at e; exact ho xs (Option.some.inj e)) e
theorem Same.but_new {H H1 H2 : Hp} {D : Addr} (h1 : Same H H1) (hD : H D = none) (h2 : SameBut D H1 H2) : Same H H2 := fun b o e => h2 b o (ne_of_none e hD) (h1 b o e)
def NodeV (H : Hp) (a : Addr) : Nd → Prop
  | .var n => H a = some (.tup [.str "var", .int n])
  | .int n => H a = some (.tup [.str "int", .int n])
  | .atom s => H a = some (.tup [.str "atom", .str s])
  | .name s n => H a = some (.tup [.str "name", .str s, .int n])
  | .tup s ps => ∃ q, H a = some (.tup [.str "tuple", .str s, .ref q]) ∧ H q = some (.tup (ps.map fun (p : Nat) => V.int p))
def intsV (ps : List Nat) : List V := ps.map fun (p : Nat) => V.int p
def word : Nd → Str
  | .var _ => "var"
  | .int _ => "int"
  | .atom _ => "atom"
  | .name _ _ => "name"
  | .tup _ _ => "tuple"
def itemsV (q : Addr) : Nd → List V
  | .var n => [.str "var", .int n]
  | .int n => [.str "int", .int n]
  | .atom s => [.str "atom", .str s]
  | .name s n => [.str "name", .str s, .int n]
  | .tup s _ => [.str "tuple", .str s, .ref q]
theorem NodeV.items {H : Hp} {a : Addr} {nd : Nd} (h : NodeV H a nd) : ∃ q, H a = some (.tup (itemsV q nd)) ∧ (∀ s ps, nd = .tup s ps → H q = some (.tup (intsV ps))) := by
  cases nd with
  | tup s ps => obtain ⟨q, h1, h2⟩ := h; exact ⟨q, h1, fun s' ps' e => by cases e; exact h2⟩
  | var n => exact ⟨a, h, fun s' ps' e => by cases e⟩
  | int n => exact ⟨a, h, fun s' ps' e => by cases e⟩
  | atom n => exact ⟨a, h, fun s' ps' e => by cases e⟩
  | name s n => exact ⟨a, h, fun s' ps' e => by cases e⟩
theorem items0 (q : Addr) (nd : Nd) : (itemsV q nd)[0]? = some (.str (word nd)) := by cases nd <;> rfl
theorem NodeV.of_items {H : Hp} {a q : Addr} {nd : Nd} (h : H a = some (.tup (itemsV q nd))) (hq : ∀ s ps, nd = .tup s ps → H q = some (.tup (intsV ps))) : NodeV H a nd := by
  cases nd with
  | tup s ps => exact ⟨q, h, hq s ps rfl⟩
  | _ => exact h
theorem NodeV.keep {H H' : Hp} {a : Addr} {nd : Nd} (t : TK H H') (h : NodeV H a nd) : NodeV H' a nd := by
  cases nd with
  | tup s ps => obtain ⟨q, h1, h2⟩ := h; exact ⟨q, t _ _ h1, t _ _ h2⟩
  | _ => exact t _ _ h
theorem word_tup (nd : Nd) : (word nd = "tuple") ↔ ∃ s ps, nd = .tup s ps := by
  cases nd with
  | tup s ps => exact ⟨fun _ => ⟨s, ps, rfl⟩, fun _ => rfl⟩
  | var n => exact ⟨fun h => absurd (show ("var" : Str) = "tuple" from h) (by decide), fun ⟨s, ps, e⟩ => by cases e⟩
  | int n => exact ⟨fun h => absurd (show ("int" : Str) = "tuple" from h) (by decide), fun ⟨s, ps, e⟩ => by cases e⟩
  | atom n => exact ⟨fun h => absurd (show ("atom" : Str) = "tuple" from h) (by decide), fun ⟨s, ps, e⟩ => by cases e⟩
  | name s n => exact ⟨fun h => absurd (show ("name" : Str) = "tuple" from h) (by decide), fun ⟨s, ps, e⟩ => by cases e⟩
theorem parts_leaf {nd : Nd} (h : word nd ≠ "tuple") : nd.parts = [] := by
  cases nd with
  | tup s ps => exact absurd rfl h
  | _ => rfl
structure NodesV (H : Hp) (as : List Addr) (G : Gr) : Prop where
  len : as.length = G.length
  node : ∀ (i : Nat) (b : Addr), as[i]? = some b → NodeV H b (Lw.at_ G i)
def GrV (H : Hp) (a : Addr) (G : Gr) : Prop := ∃ as : List Addr, H a = some (.tup (as.map V.ref)) ∧ NodesV H as G
theorem NodesV.keep {H H' : Hp} {as : List Addr} {G : Gr} (t : TK H H') (h : NodesV H as G) : NodesV H' as G := ⟨h.len, fun i b e => (h.node i b e).keep t⟩
theorem GrV.keep {H H' : Hp} {a : Addr} {G : Gr} (t : TK H H') (h : GrV H a G) : GrV H' a G := by
  obtain ⟨as, h1, h2⟩ := h
  exact ⟨as, t _ _ h1, h2.keep t⟩
def AtomOk (s : Str) : Prop := 1 ≤ s.length ∧ s.length ≤ 12 ∧ PySem.PyData.strOk s = true
def IntOk (n : Int) : Prop := -(10 ^ 9) ≤ n ∧ n ≤ 10 ^ 9
def NdOk : Nd → Prop
  | .var n => IntOk n
  | .int n => IntOk n
  | .atom s => AtomOk s
  | .name s n => AtomOk s ∧ IntOk n
  | .tup s ps => AtomOk s ∧ ps.length ≤ 6
structure Gok (G : Gr) : Prop where
  ok : Lw.Ok G
  few : G.length ≤ 100
  nodes : ∀ i, i < G.length → NdOk (Lw.at_ G i)
theorem NdOk.parts {nd : Nd} (h : NdOk nd) : nd.parts.length ≤ 6 := by
  cases nd with
  | tup s ps => exact h.2
  | _ => exact Nat.zero_le _
theorem NdOk.mapP {nd : Nd} (h : NdOk nd) (f : Nat → Nat) : NdOk (nd.mapP f) := by
  cases nd with
  | tup s ps => exact ⟨h.1, by rw [List.length_map]; exact h.2⟩
  | _ => exact h
theorem least_ok {G L : Gr} (g : Gok G) (l : Lw.Least G L) : Gok L := by
  refine ⟨l.ok g.ok, Nat.le_trans (l.len g.ok) g.few, fun i hi => ?_⟩
  obtain ⟨ks, F, kG, rG, rfl⟩ := l
  have I := rG.inv g.ok (Lw.FInv.start g.ok ks)
  rw [Lw.lst_len] at hi
  rw [Lw.lst_get (List.getElem?_eq_getElem hi)]
  exact (g.nodes _ (I.lt _ (List.getElem_mem hi))).mapP _
theorem map_ref_get {as : List Addr} {i : Nat} {b : Addr} (h : as[i]? = some b) : (as.map V.ref)[i]? = some (V.ref b) := by rw [List.getElem?_map, h]; rfl
theorem small_size {n : Nat} (h : n ≤ 100000) : n < sizeLine := Nat.lt_of_le_of_lt h (by decide)
theorem small_sizeL {n : Nat} (h : n ≤ 100000) : n ≤ sizeLine := Nat.le_of_lt (small_size h)
end LwW
set_option maxHeartbeats 4000000
namespace LwW
open PySem PySem.Spec PyProof.Rows L2 LwR
abbrev sParts : Stmt := topS 6
abbrev sHead : Stmt := topS 7
abbrev sNum : Stmt := topS 8
theorem scParts : FnScope ["node"] ["node"] (defScope sParts) := ⟨rfl, rfl, rfl, by decide +kernel, rfl, by decide +kernel, by decide +kernel⟩
theorem scHead : FnScope ["node"] ["node"] (defScope sHead) := ⟨rfl, rfl, rfl, by decide +kernel, rfl, by decide +kernel, by decide +kernel⟩
section
variable {P : Program} {w : World} {K : PySem.W.Frag} {mg : Str → Option Value} {base : Heap}
def spParts (K : PySem.W.Frag) : Sp := fun vs H Q _ => ∃ (a : Addr) (nd : Nd), vs = [.ref a] ∧ NodeV H a nd ∧ ∀ p H', Same H H' → H' p = some (.tup (intsV nd.parts)) → Q (.ref p) H'
theorem ok_parts {f : Addr} {fd : FuncData} {k : Nat} (F : Fun K "parts_of" "parts_of" sParts f fd) : FnOk P w K mg base CX0 (k + 1) f fd ["node"] (spParts K) := by
  refine F.ok scParts (fun vs H Q E h => ?_) (fun cdv A outer s H vs Q E hr h => ?_)
  · obtain ⟨a, nd, rfl, _⟩ := h
    rfl
  · obtain ⟨a, nd, rfl, hn, q⟩ := h
    refine ⟨_, pss_cons (ps_if (pt_cmpR op_eq (pe_ix ix_tup (pv 0) pe_int (fun _ _ => rfl)) pe_str (nomark _)) (pss_one (ps_ret (pe_ix ix_tup (pv 0) pe_int (fun _ _ => rfl)))) pss_nil)
      (pss_one (ps_ret (pe_tup pa_nil))), ?_⟩
    obtain ⟨z, hi, ht⟩ := hn.items
    refine ⟨.ref a, rfl, a, _, 0, _, rfl, rfl, SqT.of hi, atI_nat (j := 0) (items0 z nd), rfl, _, rfl, ite2 (fun e => ?_) (fun e => ?_)⟩
    · have e1 : word nd = "tuple" := V.str.inj (of_decide_eq_true e)
      obtain ⟨s1, ps, rfl⟩ := (word_tup nd).mp e1
      exact ⟨.ref a, rfl, a, _, 2, .ref z, rfl, rfl, SqT.of hi, atI_nat (j := 2) rfl, q z H (Same.refl H) (ht _ _ rfl)⟩
    · have e1 : word nd ≠ "tuple" := fun z => e (decide_eq_true (by rw [z]))
      refine ⟨Nat.zero_le _, fun p np => q p _ (same_upd np) ?_⟩
      rw [upd_same, parts_leaf e1]
      rfl
def hdK : Nd → List Key
  | .var n => [.inr "var", .inl n]
  | .int n => [.inr "int", .inl n]
  | .atom s => [.inr "atom", .inr s]
  | .name s n => [.inr "name", .inr s, .inl n]
  | .tup s ps => [.inr "tuple", .inr s, .inl (ps.length : Nat)]
theorem hdK_leaf {nd : Nd} (h : word nd ≠ "tuple") (q : Addr) : itemsV q nd = (hdK nd).map kV := by
  cases nd with
  | tup s ps => exact absurd rfl h
  | _ => rfl
theorem hdK_iff {a b : Nd} : hdK a = hdK b ↔ a.hd = b.hd := by
  cases a <;> cases b <;> simp [hdK, Lw.Nd.hd] <;> first | decide | omega | (intros; omega) | exact fun h => absurd h (by decide)
def spHead (K : PySem.W.Frag) : Sp := fun vs H Q _ => ∃ (a : Addr) (nd : Nd), vs = [.ref a] ∧ NodeV H a nd ∧ NdOk nd ∧ ∀ p H', Same H H' → H' p = some (.tup ((hdK nd).map kV)) → Q (.ref p) H'
theorem ok_head {f : Addr} {fd : FuncData} {k : Nat} (F : Fun K "head_of" "head_of" sHead f fd) (ml : mg "len" = none) : FnOk P w K mg base CX0 (k + 1) f fd ["node"] (spHead K) := by
  refine F.ok scHead (fun vs H Q E h => ?_) (fun cdv A outer s H vs Q E hr h => ?_)
  · obtain ⟨a, nd, rfl, _⟩ := h
    rfl
  · obtain ⟨a, nd, rfl, hn, hok, q⟩ := h
    refine ⟨_, pss_cons (ps_if (pt_cmpR op_eq (pe_ix ix_tup (pv 0) pe_int (fun _ _ => rfl)) pe_str (nomark _))
        (pss_one (ps_ret (pe_tup (pa_cons pe_str (pa_cons (pe_ix ix_tup (pv 0) pe_int (fun _ _ => rfl)) (pa_cons (pe_callB call_len_seq (by rfl) ml PySem.boot_len (pa_cons (pe_ix ix_tup (pv 0) pe_int (fun _ _ => rfl)) pa_nil)) pa_nil)))))) pss_nil)
      (pss_one (ps_ret (pv 0))), ?_⟩
    obtain ⟨z, hi, ht⟩ := hn.items
    refine ⟨.ref a, rfl, a, _, 0, _, rfl, rfl, SqT.of hi, atI_nat (j := 0) (items0 z nd), rfl, _, rfl, ite2 (fun e => ?_) (fun e => ?_)⟩
    · have e1 : word nd = "tuple" := V.str.inj (of_decide_eq_true e)
      obtain ⟨s1, ps, rfl⟩ := (word_tup nd).mp e1
      refine ⟨.ref a, rfl, a, _, 1, .str s1, rfl, rfl, SqT.of hi, atI_nat (j := 1) rfl, .ref a, rfl, a, _, 2, .ref z, rfl, rfl, SqT.of hi, atI_nat (j := 2) rfl, z, _, rfl, .inr (SqT.of (ht _ _ rfl)), by show 3 ≤ sizeLine; decide, fun p np => q p _ (same_upd np) ?_⟩
      rw [upd_same]
      unfold intsV
      rw [List.length_map]
      rfl
    · have e1 : word nd ≠ "tuple" := fun z => e (decide_eq_true (by rw [z]))
      exact ⟨.ref a, rfl, q a H (Same.refl H) (by rw [← hdK_leaf e1 z]; exact hi)⟩
def NumOk (keys : List (List Key)) (ns : List Int) : Prop := ns.length = keys.length ∧ ∀ i j, i < keys.length → j < keys.length → (ns.getD i 0 = ns.getD j 0 ↔ keys[i]? = keys[j]?)
def tbl : List (List Key) → Nat → List (List Key × V)
  | [], _ => []
  | k :: r, n => (k, V.int (n : Nat)) :: tbl r (n + 1)
theorem tbl_len : ∀ (D : List (List Key)) (n : Nat), (tbl D n).length = D.length
  | [], _ => rfl
  | k :: r, n => by show (tbl r (n + 1)).length + 1 = r.length + 1; rw [tbl_len r]
theorem tbl_snoc (k : List Key) : ∀ (D : List (List Key)) (n : Nat), tbl (D ++ [k]) n = tbl D n ++ [(k, V.int ((n + D.length : Nat)))]
  | [], n => rfl
  | d :: r, n => by
    show (d, V.int (n : Nat)) :: tbl (r ++ [k]) (n + 1) = (d, V.int (n : Nat)) :: (tbl r (n + 1) ++ [(k, V.int ((n + (r.length + 1) : Nat)))])
    rw [tbl_snoc k r (n + 1), show n + 1 + r.length = n + (r.length + 1) by omega]
def pos : List (List Key) → List Key → Nat
  | [], _ => 0
  | d :: r, k => if d = k then 0 else pos r k + 1
theorem pos_lt {k : List Key} : ∀ {D : List (List Key)}, k ∈ D → pos D k < D.length
  | [], h => nomatch h
  | d :: r, h => by
    unfold pos
    by_cases e : d = k
    · rw [if_pos e]; exact Nat.zero_lt_succ _
    · rw [if_neg e, List.length_cons]
      have hr : k ∈ r := by
        rcases List.mem_cons.mp h with z | z
        · exact absurd z.symm e
        · exact z
      have := pos_lt hr
      omega
theorem pos_get {k : List Key} : ∀ {D : List (List Key)}, k ∈ D → D[pos D k]? = some k
  | [], h => nomatch h
  | d :: r, h => by
    unfold pos
    by_cases e : d = k
    · rw [if_pos e, e]; rfl
    · rw [if_neg e, List.getElem?_cons_succ]
      have hr : k ∈ r := by
        rcases List.mem_cons.mp h with z | z
        · exact absurd z.symm e
        · exact z
      exact pos_get hr
theorem pos_inj {D : List (List Key)} {a b : List Key} (ha : a ∈ D) (hb : b ∈ D) (e : pos D a = pos D b) : a = b := by
  have h1 := pos_get ha
  rw [e, pos_get hb] at h1
  exact (Option.some.inj h1).symm
theorem pos_append {k : List Key} {E : List (List Key)} : ∀ {D : List (List Key)}, k ∈ D → pos (D ++ E) k = pos D k
  | [], h => nomatch h
  | d :: r, h => by
    show (if d = k then 0 else pos (r ++ E) k + 1) = if d = k then 0 else pos r k + 1
    by_cases e : d = k
    · rw [if_pos e, if_pos e]
    · rw [if_neg e, if_neg e]
      have hr : k ∈ r := by
        rcases List.mem_cons.mp h with z | z
        · exact absurd z.symm e
        · exact z
      rw [pos_append hr]
theorem pos_last {k : List Key} : ∀ {D : List (List Key)}, k ∉ D → pos (D ++ [k]) k = D.length
  | [], _ => by show (if k = k then 0 else _) = 0; rw [if_pos rfl]
  | d :: r, h => by
    show (if d = k then 0 else pos (r ++ [k]) k + 1) = r.length + 1
    have e : ¬ d = k := fun z => h (by rw [z]; exact List.mem_cons_self)
    rw [if_neg e, pos_last fun z => h (List.mem_cons_of_mem _ z)]
theorem tbl_in {k : List Key} : ∀ {D : List (List Key)} (n : Nat), k ∈ D → valV (tbl D n) k = some (V.int ((n + pos D k : Nat)))
  | [], n, h => nomatch h
  | d :: r, n, h => by
    unfold pos
    by_cases e : d = k
    · rw [if_pos e]
      have : valV (tbl (d :: r) n) k = some (V.int (n : Nat)) := valV_pos (p := (d, V.int (n : Nat))) e
      rw [this, Nat.add_zero]
    · rw [if_neg e]
      have hr : k ∈ r := by
        rcases List.mem_cons.mp h with z | z
        · exact absurd z.symm e
        · exact z
      have h1 : valV (tbl (d :: r) n) k = valV (tbl r (n + 1)) k := valV_neg (p := (d, V.int (n : Nat))) e
      rw [h1, tbl_in (n + 1) hr, show n + 1 + pos r k = n + (pos r k + 1) by omega]
theorem tbl_out {k : List Key} : ∀ {D : List (List Key)} (n : Nat), k ∉ D → valV (tbl D n) k = none
  | [], n, _ => rfl
  | d :: r, n, h => by
    have e : ¬ d = k := fun z => h (by rw [z]; exact List.mem_cons_self)
    have h1 : valV (tbl (d :: r) n) k = valV (tbl r (n + 1)) k := valV_neg (p := (d, V.int (n : Nat))) e
    rw [h1, tbl_out (n + 1) fun z => h (List.mem_cons_of_mem _ z)]
theorem numOk_of {keys D : List (List Key)} (h : ∀ k ∈ keys, k ∈ D) : NumOk keys (keys.map fun k => ((pos D k : Nat) : Int)) := by
  refine ⟨List.length_map .., fun i j hi hj => ?_⟩
  have g : ∀ i, (hi : i < keys.length) → (keys.map fun k => ((pos D k : Nat) : Int)).getD i 0 = ((pos D keys[i] : Nat) : Int) := fun i hi => by
    rw [List.getD_eq_getElem?_getD, List.getElem?_map, List.getElem?_eq_getElem hi]; rfl
  rw [g i hi, g j hj, List.getElem?_eq_getElem hi, List.getElem?_eq_getElem hj]
  constructor
  · intro e
    rw [pos_inj (h _ (List.getElem_mem hi)) (h _ (List.getElem_mem hj)) (Int.ofNat.inj e)]
  · intro e
    rw [Option.some.inj e]
theorem scNum : FnScope ["keys", "table", "key"] ["keys"] (defScope sNum) := ⟨rfl, rfl, rfl, by decide +kernel, rfl, by decide +kernel, by decide +kernel⟩
structure KeysV (H : Hp) (as : List Addr) (keys : List (List Key)) : Prop where
  len : as.length = keys.length
  at' : ∀ (i : Nat) (b : Addr) (k : List Key), as[i]? = some b → keys[i]? = some k → H b = some (.tup (k.map kV))
theorem KeysV.keep {H H' : Hp} {as : List Addr} {keys : List (List Key)} (t : TK H H') (h : KeysV H as keys) : KeysV H' as keys := ⟨h.len, fun i b k e1 e2 => t _ _ (h.at' i b k e1 e2)⟩
def spNum (K : PySem.W.Frag) : Sp := fun vs H Q _ => ∃ (l : Addr) (as : List Addr) (keys : List (List Key)), vs = [.ref l] ∧ H l = some (.lst (as.map V.ref)) ∧ KeysV H as keys ∧ keys.length ≤ 1000 ∧
  ∀ p ns H', Same H H' → H p = none → H' p = some (.lst (ns.map V.int)) → NumOk keys ns → Q (.ref p) H'
theorem ok_num {f : Addr} {fd : FuncData} {k : Nat} (F : Fun K "numbered" "numbered" sNum f fd) (ml : mg "len" = none) : FnOk P w K mg base CX0 (k + 1) f fd ["keys"] (spNum K) := by
  refine F.ok scNum (fun vs H Q E h => ?_) (fun cdv A outer s H vs Q E hr h => ?_)
  · obtain ⟨a, as, keys, rfl, _⟩ := h
    rfl
  · obtain ⟨l, as, keys, rfl, hl, hk, hlen, q⟩ := h
    refine ⟨_, pss_cons (ps_set (i := 1) scNum.nd rfl (.inr rfl) pe_dnewT)
      (pss_one (ps_ret (pe_lc (own := [("key", 2)]) (g := gName 2) (tt := tYes) rfl scNum.nd (pi_list (pv 0)) (blkOk_by (N := ["keys", "table", "key"]) (sc := defScope sNum) (by decide +kernel))
        (fun _ _ _ _ _ => pg_name (i := 2) scNum.nd rfl (Or.inl rfl)) (fun _ _ _ _ _ => pts_nil)
        (fun _ _ _ _ _ => pe_dsetdT (hu_of hr) (pv 1) (pv 2) (pe_callB call_len_dT (by rfl) ml PySem.boot_len (pa_cons (pv 1) pa_nil)) ⟨rfl, rfl, rfl, rfl⟩)))), ?_⟩
    intro t nt
    have s1 : Same H (upd H t (.dT [])) := same_upd nt
    have ntl : l ≠ t := ne_of_none hl nt
    refine ⟨.ref l, rfl, l, rfl, ⟨_, SqL.of (s1 _ _ hl)⟩, fun D nD => ?_⟩
    have nDt : D ≠ t := fun e => by rw [e, upd_same] at nD; cases nD
    have nDl : l ≠ D := ne_of_none (s1 _ _ hl) nD
    have nD0 : H D = none := s1.free nD
    refine lc_list (K := K) (a := l) (xs := as.map V.ref) (fun i H1 => ∃ E : List (List Key), (∀ b o, b ≠ D → b ≠ t → H b = some o → H1 b = some o) ∧ H1 t = some (.dT (tbl E 0)) ∧ E.length ≤ i ∧ (∀ k ∈ keys.take i, k ∈ E) ∧
      H1 D = some (.lst (((keys.take i).map fun k => ((pos E k : Nat) : Int)).map V.int))) ?_ ?_ ?_ ?_
    · refine ⟨[], fun b o n1 n2 e => ?_, ?_, Nat.le_refl _, fun k h => by simp at h, ?_⟩
      · rw [upd_ne n1]; exact s1 _ _ e
      · rw [upd_ne nDt.symm, upd_same]; rfl
      · rw [upd_same]; rfl
    · rintro i H1 hi ⟨E, h1, _⟩
      exact SqL.of (h1 _ _ nDl ntl hl)
    · rintro i x H1 hx ⟨E, h1, h2, h3, h4, h5⟩
      obtain ⟨b, hb, rfl⟩ : ∃ b, as[i]? = some b ∧ x = V.ref b := by
        rw [List.getElem?_map] at hx
        cases e : as[i]? with
        | none => rw [e] at hx; cases hx
        | some b => rw [e] at hx; exact ⟨b, rfl, (Option.some.inj hx).symm⟩
      have hi : i < keys.length := by rw [← hk.len]; exact (List.getElem?_eq_some_iff.mp hb).1
      have hki : keys[i]? = some keys[i] := List.getElem?_eq_getElem hi
      have ekey := hk.at' i b _ hb hki
      have nbD : b ≠ D := ne_of_none ekey nD0
      have nbt : b ≠ t := ne_of_none ekey nt
      have ekey1 := h1 _ _ nbD nbt ekey
      have tk : keys.take (i + 1) = keys.take i ++ [keys[i]] := by rw [List.take_add_one, hki]; rfl
      have hlt : (List.take i keys).length < sizeLine := by
        rw [List.length_take]
        exact small_size (Nat.le_trans (Nat.min_le_left _ _) (by omega))
      refine ⟨rfl, ?_⟩
      refine ⟨.ref t, rfl, t, rfl, .inr ⟨_, .inl h2⟩, .ref b, rfl, .ref t, rfl, t, _, rfl, h2, tbl E 0, keys[i], b, h2, rfl, ekey1, by rw [tbl_len]; exact small_size (by omega), fun v hv => ?_, fun hn => ?_⟩
      · by_cases hm : keys[i] ∈ E
        · rw [tbl_in 0 hm] at hv
          have ev : v = V.int ((pos E keys[i] : Nat)) := by rw [← Option.some.inj hv, Nat.zero_add]
          subst ev
          refine ⟨_, h5, by rw [List.length_map, List.length_map]; exact hlt, E, fun b o n1 n2 e => ?_, ?_, by omega, fun k hkm => ?_, ?_⟩
          · rw [upd_ne n1]; exact h1 b o n1 n2 e
          · rw [upd_ne nDt.symm]; exact h2
          · rw [tk] at hkm
            rcases List.mem_append.mp hkm with z | z
            · exact h4 k z
            · rw [List.mem_singleton.mp z]; exact hm
          · rw [upd_same, tk, List.map_append, List.map_append]; rfl
        · rw [tbl_out 0 hm] at hv; cases hv
      · have hm : keys[i] ∉ E := fun hm => by rw [tbl_in 0 hm] at hn; cases hn
        have hnn : valV (tbl E 0) keys[i] = none := hn
        have eput : putK (tbl E 0) keys[i] (V.int ((tbl E 0).length : Nat)) = tbl (E ++ [keys[i]]) 0 := by
          rw [putK_new _ hnn, tbl_snoc, tbl_len, Nat.zero_add]
        have nidx : ∀ k, k ∈ E → pos (E ++ [keys[i]]) k = pos E k := fun k hk => pos_append hk
        have eidx : pos (E ++ [keys[i]]) keys[i] = E.length := pos_last hm
        refine ⟨_, by rw [upd_ne nDt]; exact h5, by rw [List.length_map, List.length_map]; exact hlt, E ++ [keys[i]], fun b o n1 n2 e => ?_, ?_, by rw [List.length_append]; simp; omega, fun k hkm => ?_, ?_⟩
        · rw [upd_ne n1, upd_ne n2]; exact h1 b o n1 n2 e
        · rw [upd_ne nDt.symm, upd_same, eput]
        · rw [tk] at hkm
          rcases List.mem_append.mp hkm with z | z
          · exact List.mem_append_left _ (h4 k z)
          · exact List.mem_append_right _ z
        · rw [upd_same, tk, List.map_append, List.map_append]
          have e1 : (keys.take i).map (fun k => ((pos (E ++ [keys[i]]) k : Nat) : Int)) = (keys.take i).map fun k => ((pos E k : Nat) : Int) := List.map_congr_left fun k hk => by rw [nidx k (h4 k hk)]
          rw [e1]
          show some (HO.lst (_ ++ [V.int ((tbl E 0).length : Nat)])) = some (HO.lst (_ ++ [V.int ((pos (E ++ [keys[i]]) keys[i] : Nat))]))
          rw [eidx, tbl_len]
    · rintro H1 ⟨E, h1, h2, h3, h4, h5⟩
      have etk : keys.take (as.map V.ref).length = keys := by rw [List.length_map, hk.len, List.take_length]
      rw [etk] at h4 h5
      exact q D _ H1 (fun b o e => h1 b o (ne_of_none e nD0) (ne_of_none e nt) e) nD0 h5 (numOk_of h4)
end
end LwW
set_option maxHeartbeats 4000000
namespace LwW
open PySem PySem.Spec PyProof.Rows L2 LwR
theorem firstMet_mem (f : Nat → Int) (x : Int) : ∀ n, x ∈ PyProof.Rows.firstMet f n ↔ ∃ j, j < n ∧ f j = x
  | 0 => by
    rw [PyProof.Rows.firstMet_zero]
    constructor
    · intro h; cases h
    · rintro ⟨j, h, _⟩; omega
  | n + 1 => by
    rw [PyProof.Rows.firstMet_succ]
    show x ∈ (if (PyProof.Rows.firstMet f n).any (· == f n) = true then PyProof.Rows.firstMet f n else PyProof.Rows.firstMet f n ++ [f n]) ↔ _
    have ih := firstMet_mem f x n
    by_cases h : (PyProof.Rows.firstMet f n).any (· == f n) = true
    · rw [if_pos h, ih]
      constructor
      · rintro ⟨j, h1, h2⟩; exact ⟨j, by omega, h2⟩
      · rintro ⟨j, h1, h2⟩
        by_cases hj : j < n
        · exact ⟨j, hj, h2⟩
        · have e : j = n := by omega
          subst e
          obtain ⟨y, hy, ey⟩ := List.any_eq_true.mp h
          have ey2 : y = f j := eq_of_beq ey
          rw [ey2, h2] at hy
          exact ih.mp hy
    · rw [if_neg h, List.mem_append, ih]
      constructor
      · rintro (⟨j, h1, h2⟩ | h1)
        · exact ⟨j, by omega, h2⟩
        · exact ⟨n, by omega, (List.mem_singleton.mp h1).symm⟩
      · rintro ⟨j, h1, h2⟩
        by_cases hj : j < n
        · exact .inl ⟨j, hj, h2⟩
        · have e : j = n := by omega
          subst e
          exact .inr (List.mem_singleton.mpr h2.symm)
theorem firstMet_dc (f : Nat → Int) : ∀ n, (PyProof.Rows.firstMet f n).length = Lw.dc f n
  | 0 => rfl
  | n + 1 => by
    rw [PyProof.Rows.firstMet_succ, Lw.dc_succ, ← firstMet_dc f n]
    show (if (PyProof.Rows.firstMet f n).any (· == f n) = true then PyProof.Rows.firstMet f n else PyProof.Rows.firstMet f n ++ [f n]).length = _
    have hm := firstMet_mem f (f n) n
    by_cases h : (PyProof.Rows.firstMet f n).any (· == f n) = true
    · rw [if_pos h]
      have : Lw.fresh f n = false := by
        cases hf : Lw.fresh f n with
        | false => rfl
        | true =>
          obtain ⟨y, hy, ey⟩ := List.any_eq_true.mp h
          have ey2 : y = f n := eq_of_beq ey
          rw [ey2] at hy
          obtain ⟨j, h1, h2⟩ := hm.mp hy
          exact absurd h2 (Lw.fresh_iff.mp hf j h1)
      rw [this]; rfl
    · rw [if_neg h, List.length_append]
      have : Lw.fresh f n = true := Lw.fresh_iff.mpr fun j hj e => h (List.any_eq_true.mpr ⟨f n, hm.mpr ⟨j, hj, e⟩, beq_self_eq_true _⟩)
      rw [this]; rfl
theorem ints_get {ns : List Int} {i : Nat} (h : i < ns.length) : (ns.map V.int)[i]? = some (V.int (ns.getD i 0)) := by
  rw [List.getElem?_map, List.getElem?_eq_getElem h, List.getD_eq_getElem?_getD, List.getElem?_eq_getElem h]; rfl
theorem intsV_get {ps : List Nat} {j p : Nat} (h : ps[j]? = some p) : (intsV ps)[j]? = some (V.int (p : Nat)) := by
  unfold intsV; rw [List.getElem?_map, h]; rfl
theorem KeysV.snoc {H : Hp} {as : List Addr} {keys : List (List Key)} {b : Addr} {k : List Key} (h : KeysV H as keys) (hb : H b = some (.tup (k.map kV))) : KeysV H (as ++ [b]) (keys ++ [k]) := by
  refine ⟨by rw [List.length_append, List.length_append, h.len]; rfl, fun i c k' h1 h2 => ?_⟩
  by_cases hi : i < as.length
  · rw [List.getElem?_append_left hi] at h1
    rw [List.getElem?_append_left (by rw [← h.len]; exact hi)] at h2
    exact h.at' i c k' h1 h2
  · rw [List.getElem?_append_right (by omega)] at h1
    rw [List.getElem?_append_right (by rw [← h.len]; omega), ← h.len] at h2
    cases e : i - as.length with
    | zero => rw [e] at h1 h2; cases h1; cases h2; exact hb
    | succ j => rw [e] at h1; cases h1
theorem KeysV.nil {H : Hp} : KeysV H [] [] := ⟨rfl, fun i b k h => by cases h⟩
def keyOf (G : Gr) (f : Nat → Int) (i : Nat) : List Key := .inl (f i) :: (Lw.at_ G i).parts.map fun p => Sum.inl (f p)
def keysOf (G : Gr) (f : Nat → Int) : List (List Key) := (List.range G.length).map (keyOf G f)
theorem keysOf_len (G : Gr) (f : Nat → Int) : (keysOf G f).length = G.length := by unfold keysOf; rw [List.length_map, List.length_range]
theorem keysOf_get (G : Gr) (f : Nat → Int) {i : Nat} (h : i < G.length) : (keysOf G f)[i]? = some (keyOf G f i) := by
  unfold keysOf
  rw [List.getElem?_map, List.getElem?_range h]; rfl
theorem map_inl_inj {f : Nat → Int} {ps qs : List Nat} : (ps.map fun p => (Sum.inl (f p) : Key)) = (qs.map fun p => Sum.inl (f p)) ↔ ps.map f = qs.map f := by
  have e : ∀ l : List Nat, (l.map fun p => (Sum.inl (f p) : Key)) = (l.map f).map Sum.inl := fun l => by rw [List.map_map]; rfl
  rw [e, e]
  constructor
  · intro h
    exact (List.map_inj_right (f := (Sum.inl : Int → Key)) (fun a b h => Sum.inl.inj h)).mp h
  · intro h; rw [h]
theorem keyOf_iff {G : Gr} {f : Nat → Int} {i j : Nat} : keyOf G f i = keyOf G f j ↔ f i = f j ∧ (Lw.at_ G i).parts.map f = (Lw.at_ G j).parts.map f := by
  unfold keyOf
  rw [List.cons.injEq, map_inl_inj]
  constructor
  · rintro ⟨h1, h2⟩; exact ⟨Sum.inl.inj h1, h2⟩
  · rintro ⟨h1, h2⟩; exact ⟨by rw [h1], h2⟩
def heads (G : Gr) : List (List Key) := G.map hdK
theorem heads_get {G : Gr} {i : Nat} (h : i < G.length) : (heads G)[i]? = some (hdK (Lw.at_ G i)) := by
  unfold heads
  rw [List.getElem?_map, Lw.get_at h]; rfl
abbrev sCls : Stmt := topS 9
theorem scCls : FnScope ["graph", "node", "found", "count", "keys", "at", "part"] ["graph"] (defScope sCls) := ⟨rfl, rfl, rfl, by decide +kernel, rfl, by decide +kernel, by decide +kernel⟩
section
variable {P : Program} {w : World} {K : PySem.W.Frag} {mg : Str → Option Value} {base : Heap}
def spCls (K : PySem.W.Frag) : Sp := fun vs H Q _ => ∃ (a : Addr) (G : Gr), vs = [.ref a] ∧ GrV H a G ∧ Gok G ∧
  ∀ (p : Addr) (ns : List Int) (H' : Hp), Same H H' → H p = none → H' p = some (.lst (ns.map V.int)) → ns.length = G.length → Lw.Kinds G (fun i => ns.getD i 0) → Q (.ref p) H'
structure Blt (mg : Str → Option Value) : Prop where
  len : mg "len" = none
  set : mg "set" = none
  enum : mg "enumerate" = none
  tuple : mg "tuple" = none
  range : mg "range" = none
  zip : mg "zip" = none
  str : mg "str" = none
  reversed : mg "reversed" = none
  list : mg "list" = none
  int : mg "int" = none
  abs : mg "abs" = none
  isinst : mg "isinstance" = none
theorem ok_cls {f fN fH fP : Addr} {fd fdN fdH fdP : FuncData} {k : Nat} {tM : Tok} (F : Fun K "classes" "classes" sCls f fd) (B : Blt mg) (hM : mg "MOST_NODES" = some (.int 400 tM))
    (FN : Fun K "numbered" "numbered" sNum fN fdN) (bN : Binds K fdN ["keys"] []) (gN : mg "numbered" = some (.ref fN))
    (FH : Fun K "head_of" "head_of" sHead fH fdH) (bH : Binds K fdH ["node"] []) (gH : mg "head_of" = some (.ref fH))
    (FP : Fun K "parts_of" "parts_of" sParts fP fdP) (bP : Binds K fdP ["node"] []) (gP : mg "parts_of" = some (.ref fP)) : FnOk P w K mg base CX0 (k + 2) f fd ["graph"] (spCls K) := by
  have GN : FnOk P w K mg base CX0 (k + 1) fN fdN ["keys"] (spNum K) := ok_num FN B.len
  have GH : FnOk P w K mg base CX0 (k + 1) fH fdH ["node"] (spHead K) := ok_head FH B.len
  have GP : FnOk P w K mg base CX0 (k + 1) fP fdP ["node"] (spParts K) := ok_parts FP
  refine F.ok scCls (fun vs H Q E h => ?_) (fun cdv A outer s H vs Q E hr h => ?_)
  · obtain ⟨a, G, rfl, _⟩ := h
    rfl
  · obtain ⟨a, G, rfl, hG, ok, q⟩ := h
    obtain ⟨as, ha, hn⟩ := hG
    refine ⟨_, pss_cons (ps_set (i := 2) scCls.nd rfl (.inr rfl) (pe_call GN hr (by rfl) gN FN.kp bN .nil pass0 (pa_cons
        (pe_lc (own := [("node", 1)]) (g := gName 1) (tt := tYes) rfl scCls.nd (pi_tup (pv 0)) (blkOk_by (N := ["graph", "node", "found", "count", "keys", "at", "part"]) (sc := defScope sCls) (by decide +kernel))
          (fun _ _ _ _ _ => pg_name (i := 1) scCls.nd rfl (Or.inl rfl)) (fun _ _ _ _ _ => pts_nil) (fun _ _ _ _ _ => pe_call GH hr (by rfl) gH FH.kp bH .nil pass0 (pa_cons (pv 1) pa_nil))) pa_nil)))
      (pss_cons (ps_set (i := 3) scCls.nd rfl (.inl rfl) pe_int)
      (pss_cons (ps_while PassesOwn.never (pt_cmpR op_gt (pe_lenSetN (by rfl) B.len (by rfl) B.set (pv 2)) (pv 3) (nomark _))
        (pss_cons (ps_set (i := 3) scCls.nd rfl (.inl rfl) (pe_lenSetN (by rfl) B.len (by rfl) B.set (pv 2)))
        (pss_cons (ps_if (pt_cmpR op_gt (pv 3) (pe_glob (v := .int 400) rfl hM ⟨_, rfl⟩) (nomark _)) pss_never pss_nil)
        (pss_cons (ps_set (i := 4) scCls.nd rfl (.inl rfl) (pe_lst pa_nil))
        (pss_cons (ps_for PassesOwn.never rfl (pi_enumT (by rfl) B.enum (pa_cons (pv 0) pa_nil)) (pg_tup rfl (pgs_cons (pg_name (i := 5) scCls.nd rfl (.inl rfl)) (pgs_cons (pg_name (i := 1) scCls.nd rfl (.inl rfl)) pgs_nil)))
          (pss_one (ps_expr (pe_bm PySem.F.plainAttrs_list PySem.F.slot_list_append PySem.F.type_list_append mt_append (pv 4) (pa_cons
            (pe_op op_catT (pe_tup (pa_cons (pe_ix ix_list (pv 2) (pv 5) (fun _ _ => rfl)) pa_nil))
              (pe_tupleOf (by rfl) B.tuple (pe_lc (own := [("part", 6)]) (g := gName 6) (tt := tYes) rfl scCls.nd (pi_tup (pe_call GP hr (by rfl) gP FP.kp bP .nil pass0 (pa_cons (pv 1) pa_nil)))
                (blkOk_by (N := ["graph", "node", "found", "count", "keys", "at", "part"]) (sc := defScope sCls) (by decide +kernel))
                (fun _ _ _ _ _ => pg_name (i := 6) scCls.nd rfl (Or.inl rfl)) (fun _ _ _ _ _ => pts_nil) (fun _ _ _ _ _ => pe_ix (r := rIxL K) ix_list (pv 2) (pv 6) (fun _ _ => rfl))))) pa_nil)))))
        (pss_one (ps_set (i := 2) scCls.nd rfl (.inr rfl) (pe_call GN hr (by rfl) gN FN.kp bN .nil pass0 (pa_cons (pv 4) pa_nil)))))))))
      (pss_one (ps_ret (pv 2))))), ?_⟩
    have hA : ∀ {H1 : Hp}, Same H H1 → SqT K H1 a (as.map V.ref) := fun sm => SqT.of (sm _ _ ha)
    refine ⟨.ref a, rfl, a, rfl, ⟨_, hA (Same.refl H)⟩, fun D nD => ?_⟩
    refine lc_tup (K := K) (a := a) (xs := as.map V.ref) (fun i H1 => ∃ bs : List Addr, SameBut D H H1 ∧ H1 D = some (.lst (bs.map V.ref)) ∧ KeysV H1 bs ((heads G).take i)) ?_ ?_ ?_ ?_
    · exact ⟨[], SameBut.of (same_upd nD), upd_same, .nil⟩
    · rintro i H1 hi ⟨bs, h1, _⟩
      exact SqT.of (h1 _ _ (ne_of_none ha nD) ha)
    · rintro i x H1 hx ⟨bs, h1, h2, h3⟩
      obtain ⟨b, hb, rfl⟩ : ∃ b, as[i]? = some b ∧ x = V.ref b := by
        rw [List.getElem?_map] at hx
        cases e : as[i]? with
        | none => rw [e] at hx; cases hx
        | some b => rw [e] at hx; exact ⟨b, rfl, (Option.some.inj hx).symm⟩
      have hi : i < G.length := by rw [← hn.len]; exact (List.getElem?_eq_some_iff.mp hb).1
      have tk1 : TK H H1 := fun c xs e => h1 c _ (ne_of_none e nD) e
      refine ⟨rfl, .ref b, rfl, b, Lw.at_ G i, rfl, (hn.node i b hb).keep tk1, ok.nodes i hi, fun p H2 sm hp => ?_⟩
      have tk2 : (heads G).take (i + 1) = (heads G).take i ++ [hdK (Lw.at_ G i)] := by rw [List.take_add_one, heads_get hi]; rfl
      have hlb : bs.length = i := by
        rw [h3.len, List.length_take]; unfold heads; rw [List.length_map]; omega
      have npD : p ≠ D := ne_of hp (sm _ _ h2) (fun z => nomatch z)
      refine ⟨_, sm _ _ h2, by rw [List.length_map, hlb]; exact small_size (by have := ok.few; omega), bs ++ [p], ?_, ?_, ?_⟩
      · exact (h1.trans (SameBut.of sm)).trans sameBut_upd
      · rw [upd_same, List.map_append]; rfl
      · rw [tk2]
        have tk3 : TK H2 (upd H2 D (.lst (bs.map V.ref ++ [V.ref p]))) := sameBut_upd.tk (sm _ _ h2) (fun xs z => nomatch z)
        exact ((h3.keep (TK.of sm)).keep tk3).snoc (by rw [upd_ne npD]; exact hp)
    · rintro H1 ⟨bs, h1, h2, h3⟩
      have etk : (heads G).take (as.map V.ref).length = heads G := by
        rw [List.length_map, hn.len]; exact List.take_of_length_le (by unfold heads; rw [List.length_map]; exact Nat.le_refl _)
      rw [etk] at h3
      have s1 : Same H H1 := fun b o e => h1 b o (ne_of_none e nD) e
      refine ⟨D, bs, heads G, rfl, h2, h3, by unfold heads; rw [List.length_map]; have := ok.few; omega, fun fo ns H2 sm nfo hfo hnum => ?_⟩
      have s2 : Same H H2 := s1.trans sm
      have nfo0 : H fo = none := s1.free nfo
      refine ⟨fun m σ H3 => ∃ (y1 y4 y5 : Option V) (fo : Addr) (ns : List Int) (cnt : Nat), σ = [some (.ref a), y1, some (.ref fo), some (.int (cnt : Nat)), y4, y5, none] ∧ m = G.length - cnt ∧ cnt ≤ G.length ∧ Same H H3 ∧ H fo = none ∧ H3 fo = some (.lst (ns.map V.int)) ∧ ns.length = G.length ∧ Lw.CInv G (fun i => ns.getD i 0) cnt, ⟨G.length - 0, none, none, none, fo, ns, 0, rfl, rfl, Nat.zero_le _, s2, nfo0, hfo, ?_, ?_⟩, fun m σ H3 hW => ?_⟩
      · rw [hnum.1]; unfold heads; rw [List.length_map]
      · refine Lw.CInv.start fun i j hi hj => ?_
        have hl : (heads G).length = G.length := by unfold heads; rw [List.length_map]
        rw [hnum.2 i j (by omega) (by omega), heads_get hi, heads_get hj]
        constructor
        · intro e; exact hdK_iff.mp (Option.some.inj e)
        · intro e; rw [hdK_iff.mpr e]
      · obtain ⟨y1, y4, y5, fo, ns, cnt, rfl, rfl, hcn, s3, nfo, hfo, hns, I⟩ := hW
        have hdc : (PyProof.Rows.firstMet (fun i => ns.getD i 0) ns.length).length = Lw.dc (fun i => ns.getD i 0) G.length := by rw [firstMet_dc, hns]
        have hdle : Lw.dc (fun i => ns.getD i 0) G.length ≤ G.length := Lw.dc_le _ _
        have few := ok.few
        refine ⟨.ref fo, rfl, fo, ns, rfl, SqL.of hfo, by omega, _, rfl, _, cnt, rfl, rfl, _, rfl, ite2 (fun e => ?_) (fun e => ?_)⟩
        ·
          have e1 : cnt < Lw.dc (fun i => ns.getD i 0) G.length := by
            have := of_decide_eq_true e
            rw [hdc] at this
            omega
          refine ⟨fun σ' H' => ∃ (y1 y4 y5 : Option V) (fo : Addr) (ns' : List Int), σ' = [some (.ref a), y1, some (.ref fo), some (.int (Lw.dc (fun i => ns.getD i 0) G.length : Nat)), y4, y5, none] ∧ Same H H' ∧ H fo = none ∧ H' fo = some (.lst (ns'.map V.int)) ∧ ns'.length = G.length ∧ Lw.CInv G (fun i => ns'.getD i 0) (Lw.dc (fun i => ns.getD i 0) G.length), fun σ' H' hN => ?_, ?_⟩
          · obtain ⟨z1, z4, z5, fo', ns', h1, h2, h3, h4, h5, h6⟩ := hN
            exact ⟨G.length - Lw.dc (fun i => ns.getD i 0) G.length, by omega, z1, z4, z5, fo', ns', _, h1, rfl, hdle, h2, h3, h4, h5, h6⟩
          ·
            refine ⟨.ref fo, rfl, fo, ns, rfl, SqL.of hfo, by omega, ?_⟩
            rw [hdc]
            refine ⟨_, rfl, _, 400, rfl, rfl, _, rfl, ite2 (fun e => ?_) (fun _ => ?_)⟩
            · have := of_decide_eq_true e
              omega
            refine ⟨Nat.zero_le _, fun kl nkl => ?_⟩
            have nkl0 : H kl = none := s3.free nkl
            have nfk : fo ≠ kl := ne_of_none hfo nkl
            have s4 : Same H3 (upd H3 kl (.lst [])) := same_upd nkl
            refine ⟨.ref a, rfl, a, as.map V.ref, rfl, hA (s3.trans s4), ?_⟩
            refine for_enumT (K := K) (a := a) (xs := as.map V.ref) (fun i σ H4 => ∃ (z1 z5 : Option V) (bs : List Addr), σ = [some (.ref a), z1, some (.ref fo), some (.int (Lw.dc (fun i => ns.getD i 0) G.length : Nat)), some (.ref kl), z5, none] ∧ SameBut kl H3 H4 ∧ H4 kl = some (.lst (bs.map V.ref)) ∧ KeysV H4 bs ((keysOf G fun i => ns.getD i 0).take i)) ?_ ?_ ?_ ?_
            · exact ⟨y1, y5, [], rfl, SameBut.of s4, upd_same, .nil⟩
            · rintro i σ H4 ⟨z1, z5, bs, rfl, h1, _⟩
              exact SqT.of (h1 _ _ (ne_of_none (s3 _ _ ha) nkl) (s3 _ _ ha))
            · rintro i x T σ H4 hx ⟨z1, z5, bs, rfl, h1, h2, h3⟩ nT
              obtain ⟨b, hb, rfl⟩ : ∃ b, as[i]? = some b ∧ x = V.ref b := by
                rw [List.getElem?_map] at hx
                cases e : as[i]? with
                | none => rw [e] at hx; cases hx
                | some b => rw [e] at hx; exact ⟨b, rfl, (Option.some.inj hx).symm⟩
              have hi : i < G.length := by rw [← hn.len]; exact (List.getElem?_eq_some_iff.mp hb).1
              have sT : Same H4 (upd H4 T (.tup [.int (i : Nat), .ref b])) := same_upd nT
              refine ⟨T, [.int (i : Nat), .ref b], rfl, SqT.of upd_same, rfl, _, _, rfl, _, _, rfl, rfl, ?_⟩
              have hkl1 := sT _ _ h2
              refine ⟨.ref kl, rfl, .inl ⟨rfl, _, SqL.of hkl1⟩, ?_⟩
              have hfo1 : (upd H4 T (.tup [.int (i : Nat), .ref b])) fo = some (.lst (ns.map V.int)) := sT _ _ (h1 _ _ nfk hfo)
              refine ⟨.ref fo, rfl, .int (i : Nat), rfl, fo, _, _, _, rfl, rfl, SqL.of hfo1, atI_nat (ints_get (by omega)), by show 1 ≤ sizeLine; decide, fun t1 nt1 => ?_⟩
              have st1 : Same (upd H4 T (.tup [.int (i : Nat), .ref b])) (upd (upd H4 T (.tup [.int (i : Nat), .ref b])) t1 (.tup [.int (ns.getD i 0)])) := same_upd nt1
              generalize hH5 : upd (upd H4 T (.tup [.int (i : Nat), .ref b])) t1 (.tup [.int (ns.getD i 0)]) = H5 at st1
              have ht1 : H5 t1 = some (.tup [.int (ns.getD i 0)]) := by rw [← hH5, upd_same]
              have s45 : Same H4 H5 := sT.trans st1
              have tk34 : TK H3 H4 := fun c xs e => h1 c _ (ne_of_none e nkl) e
              have tk5 : TK H H5 := (TK.of s3).trans (tk34.trans (TK.of s45))
              refine ⟨.ref b, rfl, b, Lw.at_ G i, rfl, (hn.node i b hb).keep tk5, fun qq H6 s56 hqq => ?_⟩
              have hql : (Lw.at_ G i).parts.length ≤ 6 := (ok.nodes i hi).parts
              refine ⟨qq, rfl, ⟨_, SqT.of hqq⟩, fun D nD => ?_⟩
              have s46 : Same H4 H6 := s45.trans s56
              refine lc_tup (K := K) (a := qq) (xs := intsV (Lw.at_ G i).parts) (fun j H7 => SameBut D H6 H7 ∧ H7 D = some (.lst (((Lw.at_ G i).parts.take j).map fun p => V.int (ns.getD p 0)))) ?_ ?_ ?_ ?_
              · exact ⟨SameBut.of (same_upd nD), upd_same⟩
              · rintro j H7 _ ⟨g1, _⟩
                exact SqT.of (g1 _ _ (ne_of_none hqq nD) hqq)
              · rintro j x H7 hx ⟨g1, g2⟩
                have hjl : j < (Lw.at_ G i).parts.length := by
                  have := (List.getElem?_eq_some_iff.mp hx).1
                  unfold intsV at this; rw [List.length_map] at this; exact this
                have gp : (Lw.at_ G i).parts[j]? = some (Lw.at_ G i).parts[j] := List.getElem?_eq_getElem hjl
                have ex : x = V.int (((Lw.at_ G i).parts[j] : Nat)) := Option.some.inj (hx.symm.trans (intsV_get gp))
                subst ex
                have hpl : (Lw.at_ G i).parts[j] < ns.length := by rw [hns]; exact ok.ok.parts i hi _ (List.getElem_mem hjl)
                have hfo6 := g1 _ _ (ne_of_none (s46 _ _ (h1 _ _ nfk hfo)) nD) (s46 _ _ (h1 _ _ nfk hfo))
                refine ⟨rfl, .ref fo, rfl, _, rfl, fo, _, _, _, rfl, rfl, SqL.of hfo6, atI_nat (ints_get hpl), _, g2, ?_, g1.trans sameBut_upd, ?_⟩
                · rw [List.length_map, List.length_take]
                  exact small_size (Nat.le_trans (Nat.min_le_left _ _) (by omega))
                · rw [upd_same, List.take_add_one, gp, List.map_append]; rfl
              · rintro H7 ⟨g1, g2⟩
                have eln : (intsV (Lw.at_ G i).parts).length = (Lw.at_ G i).parts.length := by unfold intsV; rw [List.length_map]
                rw [eln, List.take_length] at g2
                refine .inl ⟨D, _, rfl, SqL.of g2, fun t2 nt2 => ?_⟩
                have nt1D : t1 ≠ D := ne_of_none (s56 _ _ ht1) nD
                have nklD : kl ≠ D := ne_of_none (s46 _ _ h2) nD
                have g1a := g1 _ _ nt1D (s56 _ _ ht1)
                have s78 : Same H7 (upd H7 t2 (.tup ((Lw.at_ G i).parts.map fun p => V.int (ns.getD p 0)))) := same_upd nt2
                generalize hH8 : upd H7 t2 (.tup ((Lw.at_ G i).parts.map fun p => V.int (ns.getD p 0))) = H8 at s78
                have ht2 : H8 t2 = some (.tup ((Lw.at_ G i).parts.map fun p => V.int (ns.getD p 0))) := by rw [← hH8, upd_same]
                have sb67 : SameBut kl H6 H7 := fun b o _ e => g1 b o (ne_of_none e nD) e
                have sb48 : SameBut kl H3 H8 := (h1.trans (SameBut.of s46)).trans (sb67.trans (SameBut.of s78))
                have t1_8 : H8 t1 = some (.tup [.int (ns.getD i 0)]) := s78 _ _ g1a
                have kl_8 : H8 kl = some (.lst (bs.map V.ref)) := s78 _ _ (g1 _ _ nklD (s46 _ _ h2))
                have hlb : bs.length = i := by
                  rw [h3.len, List.length_take, keysOf_len]; omega
                have k48 : KeysV H8 bs ((keysOf G fun i => ns.getD i 0).take i) := ((h3.keep (TK.of s46)).keep (fun c xs e => g1 c _ (ne_of_none e nD) e)).keep (TK.of s78)
                have tkk : (keysOf G fun i => ns.getD i 0).take (i + 1) = (keysOf G fun i => ns.getD i 0).take i ++ [keyOf G (fun i => ns.getD i 0) i] := by
                  rw [List.take_add_one, keysOf_get G _ hi]; rfl
                have fin : ∀ (r : Addr) (H9 : Hp), Same H8 H9 → H9 r = some (.tup ((keyOf G (fun i => ns.getD i 0) i).map kV)) →
                    SameBut kl H3 (upd H9 kl (.lst (bs.map V.ref ++ [V.ref r]))) ∧ (upd H9 kl (.lst (bs.map V.ref ++ [V.ref r]))) kl = some (.lst ((bs ++ [r]).map V.ref)) ∧ KeysV (upd H9 kl (.lst (bs.map V.ref ++ [V.ref r]))) (bs ++ [r]) ((keysOf G fun i => ns.getD i 0).take (i + 1)) := fun r H9 s89 hr9 => by
                  have nrk : r ≠ kl := ne_of hr9 (s89 _ _ kl_8) (fun z => nomatch z)
                  have tk9 : TK H9 (upd H9 kl (.lst (bs.map V.ref ++ [V.ref r]))) := sameBut_upd.tk (s89 _ _ kl_8) (fun xs z => nomatch z)
                  refine ⟨(sb48.trans (SameBut.of s89)).trans sameBut_upd, by rw [upd_same, List.map_append]; rfl, ?_⟩
                  rw [tkk]
                  exact ((k48.keep (TK.of s89)).keep tk9).snoc (by rw [upd_ne nrk]; exact hr9)
                have ekey : (keyOf G (fun i => ns.getD i 0) i).map kV = [V.int (ns.getD i 0)] ++ (Lw.at_ G i).parts.map fun p => V.int (ns.getD p 0) := by
                  unfold keyOf
                  rw [List.map_cons, List.map_map]; rfl
                refine ⟨t1, t2, _, _, rfl, rfl, SqT.of t1_8, SqT.of ht2, (fun z => nomatch z), ?_, fun e0 => ?_, fun _ r nr => ?_⟩
                · rw [List.length_map]; exact small_sizeL (by show 1 + _ ≤ _; omega)
                · obtain ⟨f1, f2, f3⟩ := fin t1 H8 (Same.refl _) (by rw [ekey, e0]; exact t1_8)
                  exact ⟨kl, _, _, rfl, rfl, kl_8, by rw [List.length_map, hlb]; exact small_size (by omega), _, _, _, rfl, f1, f2, f3⟩
                · have s89 : Same H8 (upd H8 r (.tup ([V.int (ns.getD i 0)] ++ (Lw.at_ G i).parts.map fun p => V.int (ns.getD p 0)))) := same_upd nr
                  obtain ⟨f1, f2, f3⟩ := fin r _ s89 (by rw [ekey, upd_same])
                  exact ⟨kl, _, _, rfl, rfl, s89 _ _ kl_8, by rw [List.length_map, hlb]; exact small_size (by omega), _, _, _, rfl, f1, f2, f3⟩
            ·
              rintro σ H4 ⟨z1, z5, bs, rfl, h1, h2, h3⟩
              have etk : (keysOf G fun i => ns.getD i 0).take (as.map V.ref).length = keysOf G fun i => ns.getD i 0 := by
                rw [List.length_map, hn.len]; exact List.take_of_length_le (by rw [keysOf_len]; exact Nat.le_refl _)
              rw [etk] at h3
              refine ⟨.ref kl, rfl, kl, bs, _, rfl, h2, h3, by rw [keysOf_len]; omega, fun fo' ns' H5 s45 nfo' hfo' hnum' => ?_⟩
              have s04 : Same H H4 := fun b o e => h1 b o (ne_of_none (s3 _ _ e) nkl) (s3 _ _ e)
              refine ⟨z1, some (.ref kl), z5, fo', ns', rfl, s04.trans s45, s04.free nfo', hfo', by rw [hnum'.1, keysOf_len], ?_⟩
              refine I.next ok.ok fun i j hi hj => ?_
              rw [hnum'.2 i j (by rw [keysOf_len]; exact hi) (by rw [keysOf_len]; exact hj), keysOf_get G _ hi, keysOf_get G _ hj, Option.some_inj, keyOf_iff]
        ·
          refine ⟨.ref fo, rfl, q fo ns H3 s3 nfo hfo hns (I.stop ok.ok ?_)⟩
          have := of_decide_eq_false (Bool.not_eq_true _ ▸ e)
          rw [hdc] at this
          omega
end
end LwW
set_option maxHeartbeats 4000000
namespace LwW
open PySem PySem.Spec PyProof.Rows L2 LwR
theorem samePut {H H1 : Hp} {x : Addr} {o : HO} (s : Same H H1) (n : H x = none) : Same H (upd H1 x o) := fun b u e => by
  rw [upd_ne (ne_of_none e n)]
  exact s b u e
def ordT (ks : Nat → Int) : List Nat → Nat → List (Key × V)
  | [], _ => []
  | f :: r, n => (.inl (ks f), V.int (n : Nat)) :: ordT ks r (n + 1)
theorem ordT_len (ks : Nat → Int) : ∀ (F : List Nat) (n : Nat), (ordT ks F n).length = F.length
  | [], _ => rfl
  | f :: r, n => by show (ordT ks r (n + 1)).length + 1 = r.length + 1; rw [ordT_len ks r]
theorem ordT_snoc (ks : Nat → Int) (a : Nat) : ∀ (F : List Nat) (n : Nat), ordT ks (F ++ [a]) n = ordT ks F n ++ [(.inl (ks a), V.int ((n + F.length : Nat)))]
  | [], n => rfl
  | d :: r, n => by
    show (Sum.inl (ks d), V.int (n : Nat)) :: ordT ks (r ++ [a]) (n + 1) = (Sum.inl (ks d), V.int (n : Nat)) :: (ordT ks r (n + 1) ++ [(.inl (ks a), V.int ((n + (r.length + 1) : Nat)))])
    rw [ordT_snoc ks a r (n + 1), show n + 1 + r.length = n + (r.length + 1) by omega]
theorem ordT_in {ks : Nat → Int} {k : Int} : ∀ {F : List Nat} (n : Nat), (∃ f ∈ F, ks f = k) → valV (ordT ks F n) (.inl k) = some (V.int ((n + Lw.ix ks F k : Nat)))
  | [], n, ⟨_, h, _⟩ => nomatch h
  | d :: r, n, h => by
    by_cases e : ks d = k
    · have : valV (ordT ks (d :: r) n) (.inl k) = some (V.int (n : Nat)) := valV_pos (p := ((Sum.inl (ks d) : Key), V.int (n : Nat))) (by rw [e])
      rw [this]
      unfold Lw.ix
      rw [List.findIdx_cons, e, beq_self_eq_true]
      rfl
    · have hr : ∃ f ∈ r, ks f = k := by
        obtain ⟨f, hf, ef⟩ := h
        rcases List.mem_cons.mp hf with z | z
        · subst z; exact absurd ef e
        · exact ⟨f, z, ef⟩
      have h1 : valV (ordT ks (d :: r) n) (.inl k) = valV (ordT ks r (n + 1)) (.inl k) := valV_neg (p := ((Sum.inl (ks d) : Key), V.int (n : Nat))) (fun z => e (Sum.inl.inj z))
      rw [h1, ordT_in (n + 1) hr]
      unfold Lw.ix
      rw [List.findIdx_cons, beq_eq_false_iff_ne.mpr e]
      show some (V.int ((n + 1 + _ : Nat))) = some (V.int ((n + (_ + 1) : Nat)))
      rw [show n + 1 + r.findIdx (fun f => ks f == k) = n + (r.findIdx (fun f => ks f == k) + 1) by omega]
theorem ordT_out {ks : Nat → Int} {k : Int} : ∀ {F : List Nat} (n : Nat), (∀ f ∈ F, ks f ≠ k) → valV (ordT ks F n) (.inl k) = none
  | [], n, _ => rfl
  | d :: r, n, h => by
    have e : ks d ≠ k := h d List.mem_cons_self
    have h1 : valV (ordT ks (d :: r) n) (.inl k) = valV (ordT ks r (n + 1)) (.inl k) := valV_neg (p := ((Sum.inl (ks d) : Key), V.int (n : Nat))) (fun z => e (Sum.inl.inj z))
    rw [h1, ordT_out (n + 1) fun f hf => h f (List.mem_cons_of_mem _ hf)]
theorem intsV_append (a b : List Nat) : intsV (a ++ b) = intsV a ++ intsV b := by unfold intsV; rw [List.map_append]
theorem intsV_reverse (a : List Nat) : intsV a.reverse = (intsV a).reverse := by unfold intsV; rw [List.map_reverse]
theorem intsV_len (a : List Nat) : (intsV a).length = a.length := by unfold intsV; rw [List.length_map]
theorem NodesV.nil {H : Hp} : NodesV H [] [] := ⟨rfl, fun i b h => by cases h⟩
theorem NodesV.snoc {H : Hp} {bs : List Addr} {M : Gr} {b : Addr} {nd : Nd} (h : NodesV H bs M) (hb : NodeV H b nd) : NodesV H (bs ++ [b]) (M ++ [nd]) := by
  refine ⟨by rw [List.length_append, List.length_append, h.len]; rfl, fun i c e => ?_⟩
  by_cases hi : i < bs.length
  · rw [List.getElem?_append_left hi] at e
    rw [Lw.at_append_left (by rw [← h.len]; exact hi)]
    exact h.node i c e
  · rw [List.getElem?_append_right (by omega)] at e
    cases e2 : i - bs.length with
    | zero =>
      rw [e2] at e
      cases e
      have : i = M.length := by have := h.len; omega
      subst this
      rw [Lw.at_append_last]; exact hb
    | succ j => rw [e2] at e; cases e
theorem take_at {L : Gr} {i : Nat} (h : i < L.length) : L.take (i + 1) = L.take i ++ [Lw.at_ L i] := by rw [List.take_add_one, Lw.get_at h]; rfl
abbrev sLeast : Stmt := topS 10
theorem scLeast : FnScope ["graph", "kinds", "order", "firsts", "waiting", "at", "found", "node", "part"] ["graph"] (defScope sLeast) := ⟨rfl, rfl, rfl, by decide +kernel, rfl, by decide +kernel, by decide +kernel⟩
section
variable {P : Program} {w : World} {K : PySem.W.Frag} {mg : Str → Option Value} {base : Heap}
def spLeast (K : PySem.W.Frag) : Sp := fun vs H Q _ => ∃ (a : Addr) (G : Gr), vs = [.ref a] ∧ GrV H a G ∧ Gok G ∧ ∀ (p : Addr) (L : Gr) (H' : Hp), Same H H' → GrV H' p L → Lw.Least G L → Q (.ref p) H'
theorem ok_least {f fC fP : Addr} {fd fdC fdP : FuncData} {k : Nat} (F : Fun K "least" "least" sLeast f fd) (B : Blt mg)
    (GC : FnOk P w K mg base CX0 (k + 2) fC fdC ["graph"] (spCls K)) (kC : PySem.W.keepIn K (.ref fC) = true) (bC : Binds K fdC ["graph"] []) (gC : mg "classes" = some (.ref fC))
    (GP : FnOk P w K mg base CX0 (k + 1) fP fdP ["node"] (spParts K)) (kP : PySem.W.keepIn K (.ref fP) = true) (bP : Binds K fdP ["node"] []) (gP : mg "parts_of" = some (.ref fP)) : FnOk P w K mg base CX0 (k + 3) f fd ["graph"] (spLeast K) := by
  refine F.ok scLeast (fun vs H Q E h => ?_) (fun cdv A outer s H vs Q E hr h => ?_)
  · obtain ⟨a, G, rfl, _⟩ := h
    rfl
  · obtain ⟨a, G, rfl, hG, ok, q⟩ := h
    obtain ⟨as, ha, hn⟩ := hG
    have hr1 : Room (k + 1) (A.deeper (envOfC "least" (defScope sLeast) s.heap.objs.size f cdv)) := hr.mono (by omega)
    refine ⟨_, pss_cons (ps_set (i := 1) scLeast.nd rfl (.inr rfl) (pe_call GC hr (by rfl) gC kC bC .nil pass0 (pa_cons (pv 0) pa_nil)))
      (pss_cons (ps_set (i := 2) scLeast.nd rfl (.inr rfl) pe_dnewK)
      (pss_cons (ps_set (i := 3) scLeast.nd rfl (.inl rfl) (pe_lst pa_nil))
      (pss_cons (ps_set (i := 4) scLeast.nd rfl (.inl rfl) (pe_lst (pa_cons pe_int pa_nil)))
      (pss_cons (ps_while PassesOwn.never (pt_truth (pv 4) (by intro _; rfl))
        (pss_cons (ps_set (i := 5) scLeast.nd rfl (.inl rfl) (pe_bm0 PySem.F.plainAttrs_list PySem.F.slot_list_pop PySem.F.type_list_pop mt_pop (pv 4)))
        (pss_one (ps_if (pt_cmp (pc_dnotin (hu_of hr) (pe_ix ix_list (pv 1) (pv 5) (fun _ _ => rfl)) (pv 2)))
          (pss_cons (ps_dput (hu_of hr) (pv 2) (pe_ix ix_list (pv 1) (pv 5) (fun _ _ => rfl)) (pe_callB call_len_seq (by rfl) B.len PySem.boot_len (pa_cons (pv 3) pa_nil)) rfl)
          (pss_cons (ps_expr (pe_bm PySem.F.plainAttrs_list PySem.F.slot_list_append PySem.F.type_list_append mt_append (pv 3) (pa_cons (pv 5) pa_nil)))
          (pss_one (ps_expr (pe_bm PySem.F.plainAttrs_list PySem.F.slot_list_extend PySem.F.type_list_extend mt_extendT (pv 4)
            (pa_cons (pe_revT (pe_call GP hr1 (by rfl) gP kP bP .nil pass0 (pa_cons (pe_ix ix_tup (pv 0) (pv 5) (fun _ _ => rfl)) pa_nil))) pa_nil)))))) pss_nil))))
      (pss_cons (ps_set (i := 6) scLeast.nd rfl (.inl rfl) (pe_lst pa_nil))
      (pss_cons (ps_for PassesOwn.never rfl (pi_list (pv 3)) (pg_name (i := 5) scLeast.nd rfl (.inl rfl))
        (pss_cons (ps_set (i := 7) scLeast.nd rfl (.inl rfl) (pe_ix ix_tup (pv 0) (pv 5) (fun _ _ => rfl)))
        (pss_cons (ps_if (pt_cmpR op_eq (pe_ix ix_tup (pv 7) pe_int (fun _ _ => rfl)) pe_str (nomark _))
          (pss_one (ps_set (i := 7) scLeast.nd rfl (.inl rfl) (pe_tup (pa_cons pe_str (pa_cons (pe_ix ix_tup (pv 7) pe_int (fun _ _ => rfl)) (pa_cons
            (pe_tupleOf (by rfl) B.tuple (pe_lc (own := [("part", 8)]) (g := gName 8) (tt := tYes) rfl scLeast.nd (pi_tup (pe_ix ix_tup (pv 7) pe_int (fun _ _ => rfl)))
              (blkOk_by (N := ["graph", "kinds", "order", "firsts", "waiting", "at", "found", "node", "part"]) (sc := defScope sLeast) (by decide +kernel))
              (fun _ _ _ _ _ => pg_name (i := 8) scLeast.nd rfl (Or.inl rfl)) (fun _ _ _ _ _ => pts_nil) (fun _ _ _ _ _ => pe_dget (hu_of hr) (pv 2) (pe_ix (r := rIxL K) ix_list (pv 1) (pv 8) (fun _ _ => rfl)) (fun _ _ => rfl)))) pa_nil)))))) pss_nil)
        (pss_one (ps_expr (pe_bm PySem.F.plainAttrs_list PySem.F.slot_list_append PySem.F.type_list_append mt_append (pv 6) (pa_cons (pv 7) pa_nil)))))))
      (pss_one (ps_ret (pe_tupleOf (by rfl) B.tuple (pv 6)))))))))), ?_⟩
    have few := ok.few
    refine ⟨.ref a, rfl, a, G, rfl, ⟨as, ha, hn⟩, ok, fun kl ns H1 s1 nkl hkl hns hK => ?_⟩
    intro od nod
    have nod0 : H od = none := s1.free nod
    have s2 : Same H (upd H1 od (.dK [])) := samePut s1 nod0
    have hkl2 : (upd H1 od (.dK [])) kl = some (.lst (ns.map V.int)) := by rw [upd_ne (ne_of_none hkl nod)]; exact hkl
    have hod2 : (upd H1 od (.dK [])) od = some (.dK []) := upd_same
    generalize upd H1 od (.dK []) = H2 at s2 hkl2 hod2
    refine ⟨Nat.zero_le _, fun fl nfl => ?_⟩
    have nfl0 : H fl = none := s2.free nfl
    have nfk : kl ≠ fl := ne_of_none hkl2 nfl
    have nfo : od ≠ fl := ne_of_none hod2 nfl
    have s3 : Same H (upd H2 fl (.lst [])) := samePut s2 nfl0
    have hkl3 : (upd H2 fl (.lst [])) kl = some (.lst (ns.map V.int)) := by rw [upd_ne nfk]; exact hkl2
    have hod3 : (upd H2 fl (.lst [])) od = some (.dK []) := by rw [upd_ne nfo]; exact hod2
    have hfl3 : (upd H2 fl (.lst [])) fl = some (.lst []) := upd_same
    generalize upd H2 fl (.lst []) = H3 at s3 hkl3 hod3 hfl3
    refine ⟨by show 1 ≤ sizeLine; decide, fun wl nwl => ?_⟩
    have nwl0 : H wl = none := s3.free nwl
    have nwk : kl ≠ wl := ne_of_none hkl3 nwl
    have nwo : od ≠ wl := ne_of_none hod3 nwl
    have nwf : fl ≠ wl := ne_of_none hfl3 nwl
    have nko : kl ≠ od := ne_of hkl3 hod3 (fun z => nomatch z)
    have s4 : Same H (upd H3 wl (.lst [.int 0])) := samePut s3 nwl0
    let ks : Nat → Int := fun i => ns.getD i 0
    refine ⟨fun m σ H4 => ∃ (y5 : Option V) (F W : List Nat), σ = [some (.ref a), some (.ref kl), some (.ref od), some (.ref fl), some (.ref wl), y5, none, none, none] ∧ m = (G.length - F.length) * 7 + W.length ∧ Same H H4 ∧ H4 kl = some (.lst (ns.map V.int)) ∧ H4 od = some (.dK (ordT ks F 0)) ∧ H4 fl = some (.lst (intsV F)) ∧ H4 wl = some (.lst (intsV W.reverse)) ∧
      Lw.FInv G ks F W ∧ W.length ≤ 1 + 6 * F.length ∧ ∀ R, Lw.LRun G ks F W R → Lw.LRun G ks [] [0] R, ⟨_, none, [], [0], rfl, rfl, s4, by rw [upd_ne nwk]; exact hkl3, by rw [upd_ne nwo]; exact hod3, by rw [upd_ne nwf]; exact hfl3, upd_same, Lw.FInv.start ok.ok ks, by simp, fun R h => h⟩, fun m σ H4 hW => ?_⟩
    obtain ⟨y5, F, W, rfl, rfl, s4, hkl4, hod4, hfl4, hwl4, I, hWl, hrun⟩ := hW
    refine ⟨.ref wl, rfl, _, .inl ⟨_, SqL.of hwl4, rfl⟩, ite2 (fun e => ?_) (fun e => ?_)⟩
    ·
      obtain ⟨x, W', rfl⟩ : ∃ x W', W = x :: W' := by
        cases W with
        | nil => exact absurd e (by simp [intsV])
        | cons x W' => exact ⟨x, W', rfl⟩
      have hx : x < G.length := I.ltW x List.mem_cons_self
      have erev : intsV (x :: W').reverse = intsV W'.reverse ++ [V.int (x : Nat)] := by rw [List.reverse_cons, intsV_append]; rfl
      rw [erev] at hwl4
      refine ⟨_, fun σ' H' h => h, .ref wl, rfl, .inl ⟨rfl, _, SqL.of hwl4⟩, wl, _, .int (x : Nat), rfl, rfl, hwl4, ?_, ?_⟩
      · rw [List.length_append]
        simp
      rw [List.dropLast_concat]
      have s5 : Same H (upd H4 wl (.lst (intsV W'.reverse))) := samePut s4 nwl0
      have hkl5 : (upd H4 wl (.lst (intsV W'.reverse))) kl = some (.lst (ns.map V.int)) := by rw [upd_ne nwk]; exact hkl4
      have hod5 : (upd H4 wl (.lst (intsV W'.reverse))) od = some (.dK (ordT ks F 0)) := by rw [upd_ne nwo]; exact hod4
      have hfl5 : (upd H4 wl (.lst (intsV W'.reverse))) fl = some (.lst (intsV F)) := by rw [upd_ne nwf]; exact hfl4
      have hwl5 : (upd H4 wl (.lst (intsV W'.reverse))) wl = some (.lst (intsV W'.reverse)) := upd_same
      generalize upd H4 wl (.lst (intsV W'.reverse)) = H5 at s5 hkl5 hod5 hfl5 hwl5
      have gk : (ns.map V.int)[x]? = some (V.int (ks x)) := ints_get (by omega)
      refine ⟨.ref kl, rfl, .int (x : Nat), rfl, kl, _, _, _, rfl, rfl, SqL.of hkl5, atI_nat gk, .ref od, rfl, od, _, rfl, DGet.k (k := Sum.inl (ks x)) hod5, _, rfl, ?_⟩
      by_cases hm : ∃ f ∈ F, ks f = ks x
      ·
        rw [ordT_in 0 hm]
        refine ⟨_, ?_, some (.int (x : Nat)), F, W', rfl, rfl, s5, hkl5, hod5, hfl5, hwl5, I.skip hm, ?_, fun R r => hrun R (.skip hm r)⟩
        · rw [List.length_cons]; omega
        · rw [List.length_cons] at hWl; omega
      · have hm' : ∀ f ∈ F, ks f ≠ ks x := fun f hf e => hm ⟨f, hf, e⟩
        have I' := I.new ok.ok hm'
        have hFle := I'.le
        rw [List.length_append, List.length_singleton] at hFle
        have hpl : (Lw.at_ G x).parts.length ≤ 6 := (ok.nodes x hx).parts
        rw [ordT_out 0 hm']
        refine ⟨.ref fl, rfl, fl, _, rfl, .inl (SqL.of hfl5), .ref od, rfl, .ref kl, rfl, .int (x : Nat), rfl, kl, _, _, _, rfl, rfl, SqL.of hkl5, atI_nat gk, od, _, rfl, DPut.k (k := Sum.inl (ks x)) hod5 (by rw [ordT_len]; exact small_size (by omega)), ?_⟩
        have eput : putK (ordT ks F 0) (.inl (ks x)) (V.int ((intsV F).length : Nat)) = ordT ks (F ++ [x]) 0 := by
          rw [putK_new _ (ordT_out 0 hm'), ordT_snoc, intsV_len, Nat.zero_add]
        rw [eput]
        have s6 : Same H (upd H5 od (.dK (ordT ks (F ++ [x]) 0))) := samePut s5 nod0
        have hkl6 : (upd H5 od (.dK (ordT ks (F ++ [x]) 0))) kl = some (.lst (ns.map V.int)) := by rw [upd_ne nko]; exact hkl5
        have hod6 : (upd H5 od (.dK (ordT ks (F ++ [x]) 0))) od = some (.dK (ordT ks (F ++ [x]) 0)) := upd_same
        have hfl6 : (upd H5 od (.dK (ordT ks (F ++ [x]) 0))) fl = some (.lst (intsV F)) := by rw [upd_ne nfo.symm]; exact hfl5
        have hwl6 : (upd H5 od (.dK (ordT ks (F ++ [x]) 0))) wl = some (.lst (intsV W'.reverse)) := by rw [upd_ne nwo.symm]; exact hwl5
        generalize upd H5 od (.dK (ordT ks (F ++ [x]) 0)) = H6 at s6 hkl6 hod6 hfl6 hwl6
        refine ⟨.ref fl, rfl, .inl ⟨rfl, _, SqL.of hfl6⟩, .int (x : Nat), rfl, fl, _, _, rfl, rfl, hfl6, by rw [intsV_len]; exact small_size (by omega), ?_⟩
        have eF : intsV F ++ [V.int (x : Nat)] = intsV (F ++ [x]) := by rw [intsV_append]; rfl
        rw [eF]
        have s7 : Same H (upd H6 fl (.lst (intsV (F ++ [x])))) := samePut s6 nfl0
        have hkl7 : (upd H6 fl (.lst (intsV (F ++ [x])))) kl = some (.lst (ns.map V.int)) := by rw [upd_ne nfk]; exact hkl6
        have hod7 : (upd H6 fl (.lst (intsV (F ++ [x])))) od = some (.dK (ordT ks (F ++ [x]) 0)) := by rw [upd_ne nfo]; exact hod6
        have hfl7 : (upd H6 fl (.lst (intsV (F ++ [x])))) fl = some (.lst (intsV (F ++ [x]))) := upd_same
        have hwl7 : (upd H6 fl (.lst (intsV (F ++ [x])))) wl = some (.lst (intsV W'.reverse)) := by rw [upd_ne nwf.symm]; exact hwl6
        generalize upd H6 fl (.lst (intsV (F ++ [x]))) = H7 at s7 hkl7 hod7 hfl7 hwl7
        obtain ⟨b, hb⟩ : ∃ b, as[x]? = some b := ⟨_, List.getElem?_eq_getElem (by rw [hn.len]; exact hx)⟩
        refine ⟨.ref wl, rfl, .inl ⟨rfl, _, SqL.of hwl7⟩, .ref a, rfl, .int (x : Nat), rfl, a, _, _, _, rfl, rfl, SqT.of (s7 _ _ ha), atI_nat (map_ref_get hb), b, Lw.at_ G x, rfl, (hn.node x b hb).keep (TK.of s7), fun qq H8 s78 hqq => ?_⟩
        refine ⟨qq, _, rfl, SqT.of hqq, fun rr nrr => ?_⟩
        have s79 : Same H7 (upd H8 rr (.tup (intsV (Lw.at_ G x).parts).reverse)) := samePut s78 (s78.free nrr)
        have hrr : (upd H8 rr (.tup (intsV (Lw.at_ G x).parts).reverse)) rr = some (.tup (intsV (Lw.at_ G x).parts).reverse) := upd_same
        generalize upd H8 rr (.tup (intsV (Lw.at_ G x).parts).reverse) = H9 at s79 hrr
        have eW : intsV W'.reverse ++ (intsV (Lw.at_ G x).parts).reverse = intsV ((Lw.at_ G x).parts ++ W').reverse := by
          rw [List.reverse_append, intsV_append, ← intsV_reverse]
        refine ⟨wl, rr, _, _, rfl, rfl, s79 _ _ hwl7, SqT.of hrr, ?_, ?_⟩
        · rw [intsV_len, List.length_reverse, List.length_reverse, intsV_len]
          rw [List.length_cons] at hWl
          exact small_sizeL (by omega)
        rw [eW]
        refine ⟨_, ?_, some (.int (x : Nat)), F ++ [x], (Lw.at_ G x).parts ++ W', rfl, rfl, samePut (s7.trans s79) nwl0, by rw [upd_ne nwk]; exact s79 _ _ hkl7, by rw [upd_ne nwo]; exact s79 _ _ hod7, by rw [upd_ne nwf]; exact s79 _ _ hfl7, upd_same, I', ?_, fun R r => hrun R (.new hm' r)⟩
        · rw [List.length_append, List.length_append, List.length_singleton, List.length_cons]
          omega
        · rw [List.length_append, List.length_append, List.length_singleton]
          rw [List.length_cons] at hWl
          omega
    ·
      have eW : W = [] := by
        cases W with
        | nil => rfl
        | cons x W' =>
          exfalso
          apply e
          rw [List.reverse_cons, intsV_append]
          cases h : intsV W'.reverse <;> rfl
      subst eW
      have hL := hrun F (.done F)
      refine ⟨Nat.zero_le _, fun ff nff => ?_⟩
      have nff0 : H ff = none := s4.free nff
      have nfk4 : kl ≠ ff := ne_of_none hkl4 nff
      have nfo4 : od ≠ ff := ne_of_none hod4 nff
      have nfl4 : fl ≠ ff := ne_of_none hfl4 nff
      refine ⟨.ref fl, rfl, fl, rfl, ⟨_, SqL.of (by rw [upd_ne nfl4]; exact hfl4)⟩, ?_⟩
      have hlen : (Lw.lst G ks F).length = F.length := Lw.lst_len
      have hFle := I.le
      refine for_list (K := K) (a := fl) (xs := intsV F) (fun i σ H5 => ∃ (z5 z7 : Option V) (bs : List Addr), σ = [some (.ref a), some (.ref kl), some (.ref od), some (.ref fl), some (.ref wl), z5, some (.ref ff), z7, none] ∧ SameBut ff H4 H5 ∧ H5 ff = some (.lst (bs.map V.ref)) ∧ NodesV H5 bs ((Lw.lst G ks F).take i)) ?_ ?_ ?_ ?_
      · exact ⟨y5, none, [], rfl, sameBut_upd, upd_same, .nil⟩
      · rintro i σ H5 _ ⟨z5, z7, bs, rfl, h1, _⟩
        exact SqL.of (h1 _ _ nfl4 hfl4)
      · rintro i y σ H5 hy ⟨z5, z7, bs, rfl, h1, h2, h3⟩
        have hi : i < F.length := by
          have := (List.getElem?_eq_some_iff.mp hy).1
          rw [intsV_len] at this; exact this
        have gx : F[i]? = some F[i] := List.getElem?_eq_getElem hi
        have ey : y = V.int ((F[i] : Nat)) := Option.some.inj (hy.symm.trans (intsV_get gx))
        subst ey
        have hx : F[i] < G.length := I.lt _ (List.getElem_mem hi)
        have hlb : bs.length = i := by rw [h3.len, List.length_take]; omega
        have s5 : Same H H5 := fun b o e => h1 b o (ne_of_none e nff0) (s4 b o e)
        obtain ⟨b0, hb0⟩ : ∃ b, as[F[i]]? = some b := ⟨_, List.getElem?_eq_getElem (by rw [hn.len]; exact hx)⟩
        have hnode := (hn.node _ b0 hb0).keep (TK.of s5)
        obtain ⟨q0, hi0, hq0⟩ := hnode.items
        have eat : Lw.at_ (Lw.lst G ks F) i = (Lw.at_ G F[i]).mapP fun p => Lw.ix ks F (ks p) := Lw.lst_get gx
        have fin : ∀ (r : Addr) (H6 : Hp), Same H5 H6 → NodeV H6 r ((Lw.at_ G F[i]).mapP fun p => Lw.ix ks F (ks p)) →
            SameBut ff H4 (upd H6 ff (.lst (bs.map V.ref ++ [V.ref r]))) ∧ (upd H6 ff (.lst (bs.map V.ref ++ [V.ref r]))) ff = some (.lst ((bs ++ [r]).map V.ref)) ∧ NodesV (upd H6 ff (.lst (bs.map V.ref ++ [V.ref r]))) (bs ++ [r]) ((Lw.lst G ks F).take (i + 1)) := fun r H6 s56 hr6 => by
          have tk6 : TK H6 (upd H6 ff (.lst (bs.map V.ref ++ [V.ref r]))) := sameBut_upd.tk (s56 _ _ h2) (fun xs z => nomatch z)
          refine ⟨(h1.trans (SameBut.of s56)).trans sameBut_upd, by rw [upd_same, List.map_append]; rfl, ?_⟩
          rw [take_at (by rw [hlen]; exact hi), eat]
          exact ((h3.keep (TK.of s56)).keep tk6).snoc (hr6.keep tk6)
        have app : bs.length < 100000 := by omega
        refine ⟨.ref a, rfl, .int (F[i] : Nat), rfl, a, _, _, _, rfl, rfl, SqT.of (s5 _ _ ha), atI_nat (map_ref_get hb0), ?_⟩
        refine ⟨.ref b0, rfl, b0, _, 0, _, rfl, rfl, SqT.of hi0, atI_nat (j := 0) (items0 q0 _), rfl, _, rfl, ite2 (fun e => ?_) (fun e => ?_)⟩
        · have e1 : word (Lw.at_ G F[i]) = "tuple" := V.str.inj (of_decide_eq_true e)
          obtain ⟨s1, ps, eG⟩ := (word_tup _).mp e1
          have hq1 := hq0 _ _ eG
          rw [eG] at hi0
          have hpl : ps.length ≤ 6 := by
            have := (ok.nodes _ hx).parts
            rw [eG] at this; exact this
          have hcov : ∀ p ∈ ps, ∃ f ∈ F, ks f = ks p := fun p hp => (I.cov F[i] (List.getElem_mem hi) p (by rw [eG]; exact hp)).elim id fun z => nomatch z
          have hplt : ∀ p ∈ ps, p < G.length := fun p hp => ok.ok.parts _ hx p (by rw [eG]; exact hp)
          refine ⟨.ref b0, rfl, b0, _, 1, .str s1, rfl, rfl, SqT.of hi0, atI_nat (j := 1) rfl, .ref b0, rfl, b0, _, 2, .ref q0, rfl, rfl, SqT.of hi0, atI_nat (j := 2) rfl, q0, rfl, ⟨_, SqT.of hq1⟩, fun D nD => ?_⟩
          refine lc_tup (K := K) (a := q0) (xs := intsV ps) (fun j H6 => SameBut D H5 H6 ∧ H6 D = some (.lst (intsV ((ps.take j).map fun p => Lw.ix ks F (ks p))))) ?_ ?_ ?_ ?_
          · exact ⟨SameBut.of (same_upd nD), upd_same⟩
          · rintro j H6 _ ⟨g1, _⟩
            exact SqT.of (g1 _ _ (ne_of_none hq1 nD) hq1)
          · rintro j x H6 hx ⟨g1, g2⟩
            have hjl : j < ps.length := by
              have := (List.getElem?_eq_some_iff.mp hx).1
              rw [intsV_len] at this; exact this
            have gp : ps[j]? = some ps[j] := List.getElem?_eq_getElem hjl
            have ex : x = V.int ((ps[j] : Nat)) := Option.some.inj (hx.symm.trans (intsV_get gp))
            subst ex
            have hkl5 := h1 _ _ nfk4 hkl4
            have hod5 := h1 _ _ nfo4 hod4
            have hkl6 := g1 _ _ (ne_of_none hkl5 nD) hkl5
            have hod6 := g1 _ _ (ne_of_none hod5 nD) hod5
            have hget : DGet H6 od (kV (.inl (ks ps[j]))) (some (V.int ((0 + Lw.ix ks F (ks ps[j]) : Nat)))) := by
              have := DGet.k (k := Sum.inl (ks ps[j])) hod6
              rw [ordT_in 0 (hcov _ (List.getElem_mem hjl))] at this
              exact this
            refine ⟨rfl, .ref od, rfl, .ref kl, rfl, _, rfl, kl, _, _, _, rfl, rfl, SqL.of hkl6, atI_nat (ints_get (by have := hplt _ (List.getElem_mem hjl); omega)), od, _, rfl, hget, _, g2, ?_, g1.trans sameBut_upd, ?_⟩
            · rw [intsV_len, List.length_map, List.length_take]
              exact small_size (Nat.le_trans (Nat.min_le_left _ _) (by omega))
            · rw [upd_same, List.take_add_one, gp, List.map_append, intsV_append, Nat.zero_add]; rfl
          · rintro H6 ⟨g1, g2⟩
            rw [intsV_len, List.take_length] at g2
            have s56 : Same H5 H6 := fun b o e => g1 b o (ne_of_none e nD) e
            refine .inl ⟨D, _, rfl, SqL.of g2, fun t nt => ?_⟩
            have s67 : Same H6 (upd H6 t (.tup (intsV (ps.map fun p => Lw.ix ks F (ks p))))) := same_upd nt
            have ht : (upd H6 t (.tup (intsV (ps.map fun p => Lw.ix ks F (ks p))))) t = some (.tup (intsV (ps.map fun p => Lw.ix ks F (ks p)))) := upd_same
            generalize upd H6 t (.tup (intsV (ps.map fun p => Lw.ix ks F (ks p)))) = H7 at s67 ht
            refine ⟨by show 3 ≤ sizeLine; decide, fun r nr => ?_⟩
            have s78 : Same H7 (upd H7 r (.tup [.str "tuple", .str s1, .ref t])) := same_upd nr
            have hr8 : (upd H7 r (.tup [.str "tuple", .str s1, .ref t])) r = some (.tup [.str "tuple", .str s1, .ref t]) := upd_same
            generalize upd H7 r (.tup [.str "tuple", .str s1, .ref t]) = H8 at s78 hr8
            have s58 : Same H5 H8 := s56.trans (s67.trans s78)
            obtain ⟨f1, f2, f3⟩ := fin r H8 s58 (by rw [eG]; exact ⟨t, hr8, s78 _ _ ht⟩)
            exact ⟨.ref ff, rfl, .inl ⟨rfl, _, SqL.of (s58 _ _ h2)⟩, .ref r, rfl, ff, _, _, rfl, rfl, s58 _ _ h2, by rw [List.length_map]; exact small_size (by omega), _, _, _, rfl, f1, f2, f3⟩
        · have e1 : word (Lw.at_ G F[i]) ≠ "tuple" := fun z => e (decide_eq_true (by rw [z]))
          have eM : (Lw.at_ G F[i]).mapP (fun p => Lw.ix ks F (ks p)) = Lw.at_ G F[i] := by
            refine Lw.nd_ext (Lw.hd_mapP _ _) ?_
            rw [Lw.parts_mapP, parts_leaf e1]; rfl
          obtain ⟨f1, f2, f3⟩ := fin b0 H5 (Same.refl _) (by rw [eM]; exact hnode)
          exact ⟨.ref ff, rfl, .inl ⟨rfl, _, SqL.of h2⟩, .ref b0, rfl, ff, _, _, rfl, rfl, h2, by rw [List.length_map]; exact small_size (by omega), _, _, _, rfl, f1, f2, f3⟩
      ·
        rintro σ H5 ⟨z5, z7, bs, rfl, h1, h2, h3⟩
        rw [intsV_len, ← hlen, List.take_length] at h3
        have s5 : Same H H5 := fun b o e => h1 b o (ne_of_none e nff0) (s4 b o e)
        refine ⟨.ref ff, rfl, .inl ⟨ff, _, rfl, SqL.of h2, fun t nt => ?_⟩⟩
        have st : Same H5 (upd H5 t (.tup (bs.map V.ref))) := same_upd nt
        exact q t (Lw.lst G ks F) _ (s5.trans st) ⟨bs, upd_same, h3.keep (TK.of st)⟩ ⟨ks, F, hK, hL, rfl⟩
abbrev sChecked : Stmt := topS 11
theorem scChecked : FnScope ["graph", "found"] ["graph"] (defScope sChecked) := ⟨rfl, rfl, rfl, by decide +kernel, rfl, by decide +kernel, by decide +kernel⟩
theorem ok_checked {f fL : Addr} {fd fdL : FuncData} {k : Nat} {tM : Tok} (F : Fun K "checked" "checked" sChecked f fd) (B : Blt mg) (hM : mg "MOST_NODES" = some (.int 400 tM))
    (GL : FnOk P w K mg base CX0 (k + 3) fL fdL ["graph"] (spLeast K)) (kL : PySem.W.keepIn K (.ref fL) = true) (bL : Binds K fdL ["graph"] []) (gL : mg "least" = some (.ref fL)) : FnOk P w K mg base CX0 (k + 4) f fd ["graph"] (spLeast K) := by
  refine F.ok scChecked (fun vs H Q E h => ?_) (fun cdv A outer s H vs Q E hr h => ?_)
  · obtain ⟨a, G, rfl, _⟩ := h
    rfl
  · obtain ⟨a, G, rfl, hG, ok, q⟩ := h
    refine ⟨_, pss_cons (ps_set (i := 1) scChecked.nd rfl (.inl rfl) (pe_call GL hr (by rfl) gL kL bL .nil pass0 (pa_cons (pv 0) pa_nil)))
      (pss_cons (ps_if (pt_cmpR op_gt (pe_callB call_len_seq (by rfl) B.len PySem.boot_len (pa_cons (pv 1) pa_nil)) (pe_glob (v := .int 400) rfl hM ⟨_, rfl⟩) (nomark _)) pss_never pss_nil)
      (pss_one (ps_ret (pv 1)))), ?_⟩
    refine ⟨.ref a, rfl, a, G, rfl, hG, ok, fun p L H1 s1 hL hl => ?_⟩
    obtain ⟨bs, hp, hbs⟩ := id hL
    have := hl.len ok.ok
    have few := ok.few
    have hb := hbs.len
    refine ⟨.ref p, rfl, p, _, rfl, .inr (SqT.of hp), _, 400, rfl, rfl, _, rfl, ite2 (fun e => ?_) (fun _ => ?_)⟩
    · have e2 := of_decide_eq_true e
      rw [List.length_map] at e2
      omega
    · exact ⟨.ref p, rfl, q p L H1 s1 hL hl⟩
end
end LwW
set_option maxHeartbeats 4000000
namespace LwW
open PySem PySem.Spec PyProof.Rows L2 LwR
def nkR : Nd → Int
  | .var _ => 0
  | .int _ => 1
  | .atom _ => 2
  | .tup _ _ => 3
  | .name _ _ => 4
def nkN : Nd → Int
  | .var n => n
  | .int n => n
  | .atom _ => 0
  | .tup _ ps => (ps.length : Nat)
  | .name _ _ => 0
def nkS : Nd → Str
  | .var _ => ""
  | .int _ => ""
  | .atom s => s
  | .tup s _ => s
  | .name s _ => s
theorem str_tri {s t : Str} (h : s ≠ t) : decide (s.cps.toList < t.cps.toList) ≠ decide (t.cps.toList < s.cps.toList) := by
  intro e
  by_cases h1 : s.cps.toList < t.cps.toList
  · rw [decide_eq_true h1] at e
    exact absurd (of_decide_eq_true e.symm) (List.lt_asymm h1)
  · rw [decide_eq_false h1] at e
    have h2 := of_decide_eq_false e.symm
    have : s.cps.toList = t.cps.toList := List.le_antisymm h2 h1
    exact h (ext_toList this)
theorem lt3_tri {i n j m : Int} {s t : Str} (h : ¬ (i = j ∧ n = m ∧ s = t)) : lt3 i n s j m t ≠ lt3 j m t i n s := by
  unfold lt3
  by_cases h1 : i = j
  · subst h1
    rw [if_pos rfl, if_pos rfl]
    by_cases h2 : n = m
    · subst h2
      rw [if_pos rfl, if_pos rfl]
      exact str_tri fun e => h ⟨rfl, rfl, e⟩
    · rw [if_neg h2, if_neg (Ne.symm h2)]
      intro e
      by_cases h3 : n < m
      · rw [decide_eq_true h3] at e
        have := of_decide_eq_true e.symm
        omega
      · rw [decide_eq_false h3] at e
        have := of_decide_eq_false e.symm
        omega
  · rw [if_neg h1, if_neg (Ne.symm h1)]
    intro e
    by_cases h3 : i < j
    · rw [decide_eq_true h3] at e
      have := of_decide_eq_true e.symm
      omega
    · rw [decide_eq_false h3] at e
      have := of_decide_eq_false e.symm
      omega
theorem lt3_self (i n : Int) (s : Str) : lt3 i n s i n s = false := by
  unfold lt3
  rw [if_pos rfl, if_pos rfl]
  exact decide_eq_false (List.lt_irrefl _)
theorem key_hd {a b : Nd} (h1 : nkR a = nkR b) (h2 : nkN a = nkN b) (h3 : nkS a = nkS b) (hw : word a ≠ "name") : a.hd = b.hd := by
  cases a <;> cases b <;> simp_all [nkR, nkN, nkS, Lw.Nd.hd] <;> first | omega | exact absurd rfl hw
theorem key_of_hd {a b : Nd} (h : a.hd = b.hd) : nkR a = nkR b ∧ nkN a = nkN b ∧ nkS a = nkS b := by
  cases a <;> cases b <;> simp_all [nkR, nkN, nkS, Lw.Nd.hd]
abbrev sKey : Stmt := topS 13
abbrev sCmpN : Stmt := topS 14
theorem scKey : FnScope ["node", "word"] ["node"] (defScope sKey) := ⟨rfl, rfl, rfl, by decide +kernel, rfl, by decide +kernel, by decide +kernel⟩
theorem scCmpN : FnScope ["first", "second", "one", "two"] ["first", "second"] (defScope sCmpN) := ⟨rfl, rfl, rfl, by decide +kernel, rfl, by decide +kernel, by decide +kernel⟩
structure Ranks (K : PySem.W.Frag) (w : World) (mg : Str → Option Value) (r : Addr) : Prop where
  g : mg "RANKS" = some (.ref r)
  var : KDct K w r "var" (.int 0)
  int : KDct K w r "int" (.int 1)
  atom : KDct K w r "atom" (.int 2)
  tup : KDct K w r "tuple" (.int 3)
  name : KDct K w r "name" (.int 4)
theorem Ranks.at' {K : PySem.W.Frag} {w : World} {mg : Str → Option Value} {r : Addr} (R : Ranks K w mg r) (nd : Nd) : KDct K w r (word nd) (.int (nkR nd)) := by
  cases nd with
  | var n => exact R.var
  | int n => exact R.int
  | atom n => exact R.atom
  | tup s ps => exact R.tup
  | name s n => exact R.name
section
variable {P : Program} {w : World} {K : PySem.W.Frag} {mg : Str → Option Value} {base : Heap}
def spKey (K : PySem.W.Frag) : Sp := fun vs H Q _ => ∃ (a : Addr) (nd : Nd), vs = [.ref a] ∧ NodeV H a nd ∧ NdOk nd ∧ ∀ p H', Same H H' → H' p = some (.tup [.int (nkR nd), .int (nkN nd), .str (nkS nd)]) → Q (.ref p) H'
theorem ok_key {f r : Addr} {fd : FuncData} {k : Nat} (F : Fun K "node_key" "node_key" sKey f fd) (B : Blt mg) (R : Ranks K w mg r) : FnOk P w K mg base CX0 (k + 1) f fd ["node"] (spKey K) := by
  refine F.ok scKey (fun vs H Q E h => ?_) (fun cdv A outer s H vs Q E hr h => ?_)
  · obtain ⟨a, nd, rfl, _⟩ := h
    rfl
  · obtain ⟨a, nd, rfl, hn, hok, q⟩ := h
    refine ⟨_, pss_cons (ps_set (i := 1) scKey.nd rfl (.inl rfl) (pe_ix ix_tup (pv 0) pe_int (fun _ _ => rfl)))
      (pss_cons (ps_if (pt_cmpR op_in_seq (pv 1) (pe_tup (pa_cons pe_str (pa_cons pe_str pa_nil))) (by rfl))
        (pss_one (ps_ret (pe_tup (pa_cons (pe_ix ix_kdict (pe_glob (v := .ref r) rfl R.g rfl) (pv 1) (fun _ _ => rfl)) (pa_cons (pe_ix ix_tup (pv 0) pe_int (fun _ _ => rfl)) (pa_cons pe_str pa_nil)))))) pss_nil)
      (pss_cons (ps_if (pt_cmpR op_eq (pv 1) pe_str (nomark _))
        (pss_one (ps_ret (pe_tup (pa_cons (pe_ix ix_kdict (pe_glob (v := .ref r) rfl R.g rfl) (pv 1) (fun _ _ => rfl)) (pa_cons pe_int (pa_cons (pe_ix ix_tup (pv 0) pe_int (fun _ _ => rfl)) pa_nil)))))) pss_nil)
      (pss_cons (ps_if (pt_cmpR op_eq (pv 1) pe_str (nomark _))
        (pss_one (ps_ret (pe_tup (pa_cons (pe_ix ix_kdict (pe_glob (v := .ref r) rfl R.g rfl) (pv 1) (fun _ _ => rfl)) (pa_cons (pe_callB call_len_seq (by rfl) B.len PySem.boot_len (pa_cons (pe_ix ix_tup (pv 0) pe_int (fun _ _ => rfl)) pa_nil)) (pa_cons (pe_ix ix_tup (pv 0) pe_int (fun _ _ => rfl)) pa_nil)))))) pss_nil)
      (pss_one (ps_ret (pe_tup (pa_cons (pe_ix ix_kdict (pe_glob (v := .ref r) rfl R.g rfl) (pv 1) (fun _ _ => rfl)) (pa_cons pe_int (pa_cons (pe_ix ix_tup (pv 0) pe_int (fun _ _ => rfl)) pa_nil)))))))))
      , ?_⟩
    obtain ⟨z, hi, ht⟩ := hn.items
    refine ⟨.ref a, rfl, a, _, 0, _, rfl, rfl, SqT.of hi, atI_nat (j := 0) (items0 z nd), ?_⟩
    refine ⟨.str (word nd), rfl, by show 2 ≤ sizeLine; decide, fun t nt => ?_⟩
    have sm1 : Same H (upd H t (.tup [.str "var", .str "int"])) := same_upd nt
    have ht1 : (upd H t (.tup [.str "var", .str "int"])) t = some (.tup [.str "var", .str "int"]) := upd_same
    generalize upd H t (.tup [.str "var", .str "int"]) = H1 at sm1 ht1
    have hi1 := sm1 _ _ hi
    have fin : ∀ p, H1 p = none → Q (.ref p) (upd H1 p (.tup [.int (nkR nd), .int (nkN nd), .str (nkS nd)])) := fun p np => q p _ (sm1.trans (same_upd np)) upd_same
    refine ⟨t, _, rfl, .inr (SqT.of ht1), rfl, rfl, _, rfl, ?_⟩
    cases nd with
    | var n => exact ⟨_, rfl, r, _, .int 0, rfl, rfl, R.var, .ref a, rfl, a, _, 1, .int n, rfl, rfl, SqT.of hi1, atI_nat (j := 1) rfl, by show 3 ≤ sizeLine; decide, fin⟩
    | int n => exact ⟨_, rfl, r, _, .int 1, rfl, rfl, R.int, .ref a, rfl, a, _, 1, .int n, rfl, rfl, SqT.of hi1, atI_nat (j := 1) rfl, by show 3 ≤ sizeLine; decide, fin⟩
    | atom n =>
      refine ⟨_, rfl, rfl, _, rfl, ?_⟩
      exact ⟨_, rfl, r, _, .int 2, rfl, rfl, R.atom, .ref a, rfl, a, _, 1, .str n, rfl, rfl, SqT.of hi1, atI_nat (j := 1) rfl, by show 3 ≤ sizeLine; decide, fin⟩
    | tup s1 ps =>
      refine ⟨_, rfl, rfl, _, rfl, _, rfl, rfl, _, rfl, ?_⟩
      refine ⟨_, rfl, r, _, .int 3, rfl, rfl, R.tup, .ref a, rfl, a, _, 2, .ref z, rfl, rfl, SqT.of hi1, atI_nat (j := 2) rfl, z, _, rfl, .inr (SqT.of (sm1 _ _ (ht _ _ rfl))), .ref a, rfl, a, _, 1, .str s1, rfl, rfl, SqT.of hi1, atI_nat (j := 1) rfl, by show 3 ≤ sizeLine; decide, ?_⟩
      rw [intsV_len]
      exact fin
    | name s1 n =>
      refine ⟨_, rfl, rfl, _, rfl, _, rfl, rfl, _, rfl, ?_⟩
      exact ⟨_, rfl, r, _, .int 4, rfl, rfl, R.name, .ref a, rfl, a, _, 1, .str s1, rfl, rfl, SqT.of hi1, atI_nat (j := 1) rfl, by show 3 ≤ sizeLine; decide, fin⟩
end
end LwW
set_option maxHeartbeats 4000000
namespace LwW
open PySem PySem.Spec PyProof.Rows L2 LwR
def keyD (i n : Int) (s : Str) : PyData := .tuple [.int i, .int n, .str s]
theorem keyD_eqv (i n : Int) (s : Str) (j m : Int) (t : Str) : PyData.eqv (keyD i n s) (keyD j m t) = decide (i = j ∧ n = m ∧ s = t) := by
  show PyData.eqv (.tuple [.int i, .int n, .str s]) (.tuple [.int j, .int m, .str t]) = _
  simp only [PyData.eqv, PyData.eqvAll, Bool.and_true]
  by_cases h1 : i = j <;> by_cases h2 : n = m <;> by_cases h3 : s = t <;> simp [h1, h2, h3]
theorem keyD_shaped (i n : Int) {s : Str} (h : PySem.PyData.strOk s = true) : SeqAt.shaped (keyD i n s) = true := by
  show ((PyData.tuple [.int i, .int n, .str s]).canLay0 && decide ((PyData.tuple [.int i, .int n, .str s]).depth ≤ 64)) = true
  simp [PyData.canLay0, PyData.canLayAll0, PyData.depth, PyData.depthAll, h]
theorem nkS_ok {x : Nd} (h : NdOk x) : PySem.PyData.strOk (nkS x) = true := by
  cases x with
  | var n => show PySem.PyData.strOk "" = true; decide +kernel
  | int n => show PySem.PyData.strOk "" = true; decide +kernel
  | atom s => exact h.2.2
  | name s n => exact h.1.2.2
  | tup s ps => exact h.1.2.2
section
variable {P : Program} {w : World} {K : PySem.W.Frag} {mg : Str → Option Value} {base : Heap}
theorem keyD_dp {H : Hp} {p : Addr} {i n : Int} {s : Str} (h : H p = some (.tup [.int i, .int n, .str s])) : Dp K H (.ref p) (keyD i n s) := .tup (SqT.of h) (.cons (.int i) (.cons (.int n) (.cons (.str s) .nil)))
def spCmpN (K : PySem.W.Frag) : Sp := fun vs H Q _ => ∃ (a b : Addr) (x y : Nd), vs = [.ref a, .ref b] ∧ NodeV H a x ∧ NodeV H b y ∧ NdOk x ∧ NdOk y ∧ ∀ r H', Same H H' → (r = 0 ↔ x.hd = y.hd) → Q (.int r) H'
theorem ok_cmpN {f fK : Addr} {fd fdK : FuncData} {k : Nat} (F : Fun K "compare_nodes" "compare_nodes" sCmpN f fd)
    (GK : FnOk P w K mg base CX0 (k + 1) fK fdK ["node"] (spKey K)) (kK : PySem.W.keepIn K (.ref fK) = true) (bK : Binds K fdK ["node"] []) (gK : mg "node_key" = some (.ref fK)) : FnOk P w K mg base CX0 (k + 2) f fd ["first", "second"] (spCmpN K) := by
  refine F.ok scCmpN (fun vs H Q E h => ?_) (fun cdv A outer s H vs Q E hr h => ?_)
  · obtain ⟨a, b, x, y, rfl, _⟩ := h
    rfl
  · obtain ⟨a, b, x, y, rfl, hx, hy, ox, oy, q⟩ := h
    refine ⟨_, pss_cons (ps_set (i := 2) scCmpN.nd rfl (.inl rfl) (pe_call GK hr (by rfl) gK kK bK .nil pass0 (pa_cons (pv 0) pa_nil)))
      (pss_cons (ps_set (i := 3) scCmpN.nd rfl (.inl rfl) (pe_call GK hr (by rfl) gK kK bK .nil pass0 (pa_cons (pv 1) pa_nil)))
      (pss_cons (ps_if (PW.pt (pw_and (pt_cmpR (op_eqD hr.units) (pv 2) (pv 3) (nomark _)) (pw_and1 (pt_cmpR op_eq (pe_ix ix_tup (pv 0) pe_int (fun _ _ => rfl)) pe_str (nomark _)))))
        (pss_one (ps_ret (pe_op op_sub_bb (pe_cmpR op_gt (pe_ix ix_tup (pv 0) pe_int (fun _ _ => rfl)) (pe_ix ix_tup (pv 1) pe_int (fun _ _ => rfl)) (nomark _)) (pe_cmpR op_lt (pe_ix ix_tup (pv 0) pe_int (fun _ _ => rfl)) (pe_ix ix_tup (pv 1) pe_int (fun _ _ => rfl)) (nomark _))))) pss_nil)
      (pss_one (ps_ret (pe_op op_sub_bb (pe_cmpR (op_gt3 hr.units0) (pv 2) (pv 3) (nomark _)) (pe_cmpR (op_lt3 hr.units0) (pv 2) (pv 3) (nomark _))))))), ?_⟩
    refine ⟨.ref a, rfl, a, x, rfl, hx, ox, fun p1 H1 s1 hp1 => ?_⟩
    refine ⟨.ref b, rfl, b, y, rfl, hy.keep (TK.of s1), oy, fun p2 H2 s12 hp2 => ?_⟩
    have hp1' := s12 _ _ hp1
    have s2 : Same H H2 := s1.trans s12
    obtain ⟨z, hi, _⟩ := (hx.keep (TK.of s2)).items
    obtain ⟨z', hi', _⟩ := (hy.keep (TK.of s2)).items
    have last : (¬ (nkR x = nkR y ∧ nkN x = nkN y ∧ nkS x = nkS y) ∨ word x ≠ "name") →
        Q (.int (b2i (lt3 (nkR y) (nkN y) (nkS y) (nkR x) (nkN x) (nkS x)) - b2i (lt3 (nkR x) (nkN x) (nkS x) (nkR y) (nkN y) (nkS y)))) H2 := fun hc => by
      refine q _ H2 s2 ?_
      by_cases he : nkR x = nkR y ∧ nkN x = nkN y ∧ nkS x = nkS y
      · obtain ⟨e1, e2, e3⟩ := he
        have hw : word x ≠ "name" := hc.resolve_left fun z => z ⟨e1, e2, e3⟩
        rw [e1, e2, e3, lt3_self]
        exact ⟨fun _ => key_hd e1 e2 e3 hw, fun _ => by decide⟩
      · constructor
        · intro h0
          have ht := lt3_tri he
          exfalso
          apply ht
          cases h1 : lt3 (nkR x) (nkN x) (nkS x) (nkR y) (nkN y) (nkS y) <;> cases h2 : lt3 (nkR y) (nkN y) (nkS y) (nkR x) (nkN x) (nkS x) <;> first | rfl | (rw [h1, h2] at h0; exact absurd h0 (by decide))
        · intro hh
          exact absurd (key_of_hd hh) he
    refine ⟨.ref p1, rfl, .ref p2, rfl, keyD _ _ _, keyD _ _ _, keyD_dp hp1', keyD_dp hp2, keyD_shaped _ _ (nkS_ok ox), keyD_shaped _ _ (nkS_ok oy), _, rfl, ?_⟩
    rw [keyD_eqv]
    by_cases he : nkR x = nkR y ∧ nkN x = nkN y ∧ nkS x = nkS y
    · rw [decide_eq_true he]
      refine ⟨.ref a, rfl, a, _, 0, _, rfl, rfl, SqT.of hi, atI_nat (j := 0) (items0 z x), rfl, _, rfl, ite2 (fun e => ?_) (fun e => ?_)⟩
      · have e1 : word x = "name" := V.str.inj (of_decide_eq_true e)
        obtain ⟨e2, e3, e4⟩ := he
        cases x with
        | name s1 n1 =>
          cases y with
          | name s2 n2 =>
            have es : s1 = s2 := e4
            subst es
            refine ⟨.ref a, rfl, a, _, 2, .int n1, rfl, rfl, SqT.of hi, atI_nat (j := 2) rfl, .ref b, rfl, b, _, 2, .int n2, rfl, rfl, SqT.of hi', atI_nat (j := 2) rfl, n1, n2, rfl, rfl,
              .ref a, rfl, a, _, 2, .int n1, rfl, rfl, SqT.of hi, atI_nat (j := 2) rfl, .ref b, rfl, b, _, 2, .int n2, rfl, rfl, SqT.of hi', atI_nat (j := 2) rfl, n1, n2, rfl, rfl, _, _, rfl, rfl, q _ H2 s2 ?_⟩
            constructor
            · intro h0
              have : n1 = n2 := by
                by_cases h1 : n2 < n1
                · have h2 : ¬ n1 < n2 := by omega
                  rw [decide_eq_true h1, decide_eq_false h2] at h0
                  exact absurd h0 (by decide)
                · by_cases h2 : n1 < n2
                  · rw [decide_eq_false h1, decide_eq_true h2] at h0
                    exact absurd h0 (by decide)
                  · omega
              rw [this]
            · intro h0
              have : n1 = n2 := by
                have := h0
                simp [Lw.Nd.hd] at this
                exact this
              subst this
              simp
          | var _ => exact absurd (show (4 : Int) = 0 from e2) (by decide)
          | int _ => exact absurd (show (4 : Int) = 1 from e2) (by decide)
          | atom _ => exact absurd (show (4 : Int) = 2 from e2) (by decide)
          | tup _ _ => exact absurd (show (4 : Int) = 3 from e2) (by decide)
        | var _ => exact absurd (show ("var" : Str) = "name" from e1) (by decide)
        | int _ => exact absurd (show ("int" : Str) = "name" from e1) (by decide)
        | atom _ => exact absurd (show ("atom" : Str) = "name" from e1) (by decide)
        | tup _ _ => exact absurd (show ("tuple" : Str) = "name" from e1) (by decide)
      · have e1 : word x ≠ "name" := fun z => e (decide_eq_true (by rw [z]))
        exact ⟨.ref p1, rfl, .ref p2, rfl, p1, p2, _, _, _, _, _, _, rfl, rfl, SqT.of hp1', SqT.of hp2, .ref p1, rfl, .ref p2, rfl, p1, p2, _, _, _, _, _, _, rfl, rfl, SqT.of hp1', SqT.of hp2, _, _, rfl, rfl, last (.inr e1)⟩
    · rw [decide_eq_false he]
      exact ⟨.ref p1, rfl, .ref p2, rfl, p1, p2, _, _, _, _, _, _, rfl, rfl, SqT.of hp1', SqT.of hp2, .ref p1, rfl, .ref p2, rfl, p1, p2, _, _, _, _, _, _, rfl, rfl, SqT.of hp1', SqT.of hp2, _, _, rfl, rfl, last (.inl he)⟩
end
end LwW
set_option maxHeartbeats 4000000
namespace LwW
open PySem PySem.Spec PyProof.Rows L2 LwR
def pk (x : Nat × Nat) : List Key := [.inl (x.1 : Nat), .inl (x.2 : Nat)]
def pkV (x : Nat × Nat) : List V := [.int (x.1 : Nat), .int (x.2 : Nat)]
theorem pk_inj {x y : Nat × Nat} (h : pk x = pk y) : x = y := by
  unfold pk at h
  injection h with h1 h2
  injection h2 with h2 _
  have e1 := Int.ofNat.inj (Sum.inl.inj h1)
  have e2 := Int.ofNat.inj (Sum.inl.inj h2)
  exact Prod.ext e1 e2
structure PairsV (H : Hp) (bs : List Addr) (rows : List (Nat × Nat)) : Prop where
  len : bs.length = rows.length
  at' : ∀ (i : Nat) (b : Addr) (x : Nat × Nat), bs[i]? = some b → rows[i]? = some x → H b = some (.tup (pkV x))
theorem PairsV.keep {H H' : Hp} {bs : List Addr} {rows : List (Nat × Nat)} (t : TK H H') (h : PairsV H bs rows) : PairsV H' bs rows := ⟨h.len, fun i b x e1 e2 => t _ _ (h.at' i b x e1 e2)⟩
theorem PairsV.snoc {H : Hp} {bs : List Addr} {rows : List (Nat × Nat)} {b : Addr} {x : Nat × Nat} (h : PairsV H bs rows) (hb : H b = some (.tup (pkV x))) : PairsV H (bs ++ [b]) (rows ++ [x]) := by
  refine ⟨by rw [List.length_append, List.length_append, h.len]; rfl, fun i c y h1 h2 => ?_⟩
  by_cases hi : i < bs.length
  · rw [List.getElem?_append_left hi] at h1
    rw [List.getElem?_append_left (by rw [← h.len]; exact hi)] at h2
    exact h.at' i c y h1 h2
  · rw [List.getElem?_append_right (by omega)] at h1
    rw [List.getElem?_append_right (by rw [← h.len]; omega), ← h.len] at h2
    cases e : i - bs.length with
    | zero => rw [e] at h1 h2; cases h1; cases h2; exact hb
    | succ j => rw [e] at h1; cases h1
structure SeenOk (kvs : List (List Key × V)) (rows : List (Nat × Nat)) : Prop where
  few : kvs.length ≤ rows.length
  mem : ∀ x, (valV kvs (pk x)).isSome = true ↔ x ∈ rows
theorem SeenOk.put {kvs : List (List Key × V)} {rows : List (Nat × Nat)} (h : SeenOk kvs rows) (x : Nat × Nat) (v : V) : SeenOk (putK kvs (pk x) v) (rows ++ [x]) := by
  refine ⟨?_, fun y => ?_⟩
  · have := length_putK kvs (pk x) v
    have := h.few
    rw [List.length_append, List.length_singleton]; omega
  · rw [valV_put, List.mem_append, List.mem_singleton]
    by_cases e : pk y = pk x
    · rw [if_pos e]
      exact ⟨fun _ => .inr (pk_inj e), fun _ => rfl⟩
    · rw [if_neg e, h.mem]
      exact ⟨.inl, fun z => z.elim id fun z => absurd (by rw [z]) e⟩
theorem SeenOk.one (v : V) : SeenOk [(pk (0, 0), v)] [(0, 0)] := by
  have := (SeenOk.put (kvs := []) (rows := []) ⟨Nat.le_refl _, fun x => by simp [valV_nil]⟩ (0, 0) v)
  exact this
theorem addNew_le {A : Type} [DecidableEq A] : ∀ (rows ps : List A), (Lw.addNew rows ps).length ≤ rows.length + ps.length
  | rows, [] => Nat.le_refl _
  | rows, p :: ps => by
    rw [Lw.addNew_cons]
    refine Nat.le_trans (addNew_le _ ps) ?_
    rw [List.length_cons]
    split
    · omega
    · rw [List.length_append, List.length_singleton]; omega
abbrev sCompare : Stmt := topS 15
theorem scCompare : FnScope ["first", "second", "rows", "seen", "at", "one", "two", "order", "pair"] ["first", "second"] (defScope sCompare) := ⟨rfl, rfl, rfl, by decide +kernel, rfl, by decide +kernel, by decide +kernel⟩
section
variable {P : Program} {w : World} {K : PySem.W.Frag} {mg : Str → Option Value} {base : Heap}
def spCompare (K : PySem.W.Frag) : Sp := fun vs H Q _ => ∃ (a b : Addr) (G M : Gr), vs = [.ref a, .ref b] ∧ GrV H a G ∧ GrV H b M ∧ Gok G ∧ Gok M ∧ ∀ r H', Same H H' → (r = 0 ↔ Lw.Bis G M 0 0) → Q (.int r) H'
theorem ok_compare {f fN fP : Addr} {fd fdN fdP : FuncData} {k : Nat} (F : Fun K "compare" "compare" sCompare f fd) (B : Blt mg)
    (GN : FnOk P w K mg base CX0 (k + 2) fN fdN ["first", "second"] (spCmpN K)) (kN : PySem.W.keepIn K (.ref fN) = true) (bN : Binds K fdN ["first", "second"] []) (gN : mg "compare_nodes" = some (.ref fN))
    (GP : FnOk P w K mg base CX0 (k + 1) fP fdP ["node"] (spParts K)) (kP : PySem.W.keepIn K (.ref fP) = true) (bP : Binds K fdP ["node"] []) (gP : mg "parts_of" = some (.ref fP)) : FnOk P w K mg base CX0 (k + 3) f fd ["first", "second"] (spCompare K) := by
  refine F.ok scCompare (fun vs H Q E h => ?_) (fun cdv A outer s H vs Q E hr h => ?_)
  · obtain ⟨a, b, G, M, rfl, _⟩ := h
    rfl
  · obtain ⟨a, b, G, M, rfl, hG, hM, okG, okM, q⟩ := h
    obtain ⟨as, ha, hn⟩ := hG
    obtain ⟨cs, hb, hm⟩ := hM
    have hr1 : Room (k + 1) (A.deeper (envOfC "compare" (defScope sCompare) s.heap.objs.size f cdv)) := hr.mono (by omega)
    refine ⟨_, pss_cons (ps_set (i := 2) scCompare.nd rfl (.inl rfl) (pe_lst (pa_cons (pe_tup (pa_cons pe_int (pa_cons pe_int pa_nil))) pa_nil)))
      (pss_cons (ps_set (i := 3) scCompare.nd rfl (.inl rfl) (pe_dispT1 (hu_of hr) (pe_tup (pa_cons pe_int (pa_cons pe_int pa_nil))) pe_bl))
      (pss_cons (ps_set (i := 4) scCompare.nd rfl (.inl rfl) pe_int)
      (pss_cons (ps_while PassesOwn.never (pt_cmpR op_lt (pv 4) (pe_callB call_len_seq (by rfl) B.len PySem.boot_len (pa_cons (pv 2) pa_nil)) (nomark _))
        (pss_cons (ps_asg (pe_ix ix_list (pv 2) (pv 4) (fun _ _ => rfl)) (pg_tup rfl (pgs_cons (pg_name (i := 5) scCompare.nd rfl (.inl rfl)) (pgs_cons (pg_name (i := 6) scCompare.nd rfl (.inl rfl)) pgs_nil))))
        (pss_cons (ps_aug (i := 4) scCompare.nd rfl (.inl rfl) pe_int ip_add)
        (pss_cons (ps_set (i := 7) scCompare.nd rfl (.inl rfl) (pe_call GN hr (by rfl) gN kN bN .nil pass0 (pa_cons (pe_ix ix_tup (pv 0) (pv 5) (fun _ _ => rfl)) (pa_cons (pe_ix ix_tup (pv 1) (pv 6) (fun _ _ => rfl)) pa_nil))))
        (pss_cons (ps_if (pt_cmpR op_ne (pv 7) pe_int (nomark _)) (pss_one (ps_ret (pv 7))) pss_nil)
        (pss_one (ps_for PassesOwn.never rfl (pi_zipN (by rfl) B.zip (pa_cons (pe_call GP hr1 (by rfl) gP kP bP .nil pass0 (pa_cons (pe_ix ix_tup (pv 0) (pv 5) (fun _ _ => rfl)) pa_nil)) (pa_cons (pe_call GP hr1 (by rfl) gP kP bP .nil pass0 (pa_cons (pe_ix ix_tup (pv 1) (pv 6) (fun _ _ => rfl)) pa_nil)) pa_nil)))
            (pg_name (i := 8) scCompare.nd rfl (.inl rfl))
          (pss_one (ps_if (pt_cmp (pc_dnotin (hu_of hr) (pv 8) (pv 3)))
            (pss_cons (ps_dput (hu_of hr) (pv 3) (pv 8) pe_bl rfl)
            (pss_one (ps_expr (pe_bm PySem.F.plainAttrs_list PySem.F.slot_list_append PySem.F.type_list_append mt_append (pv 2) (pa_cons (pv 8) pa_nil))))) pss_nil)))))))))
      (pss_one (ps_ret pe_int))))), ?_⟩
    refine ⟨by show 2 ≤ sizeLine; decide, fun t nt => ⟨by show 1 ≤ sizeLine; decide, fun rl nrl => ?_⟩⟩
    have s1 : Same H (upd H t (.tup [.int 0, .int 0])) := same_upd nt
    have ht : (upd H t (.tup [.int 0, .int 0])) t = some (.tup (pkV (0, 0))) := upd_same
    generalize upd H t (.tup [.int 0, .int 0]) = H1 at s1 ht nrl
    have nrl0 : H rl = none := s1.free nrl
    have s2 : Same H (upd H1 rl (.lst [.ref t])) := samePut s1 nrl0
    have ht2 : (upd H1 rl (.lst [.ref t])) t = some (.tup (pkV (0, 0))) := by rw [upd_ne (ne_of_none ht nrl)]; exact ht
    have hrl2 : (upd H1 rl (.lst [.ref t])) rl = some (.lst ([t].map V.ref)) := upd_same
    generalize upd H1 rl (.lst [.ref t]) = H2 at s2 ht2 hrl2
    refine fun sd nsd => ⟨by show 2 ≤ sizeLine; decide, fun t' nt' => ?_⟩
    have nsd0 : H sd = none := s2.free nsd
    have nrs : rl ≠ sd := ne_of_none hrl2 nsd
    have nts : sd ≠ t' := fun e => by rw [← e, upd_same] at nt'; cases nt'
    have nt'2 : H2 t' = none := by rw [upd_ne nts.symm] at nt'; exact nt'
    have nt'0 : H t' = none := s2.free nt'2
    refine ⟨t', pk (0, 0), rfl, upd_same, by rw [upd_ne nts, upd_same], ?_⟩
    have s3 : Same H (upd (upd (upd H2 sd (.dT [])) t' (.tup [.int 0, .int 0])) sd (.dT [(pk (0, 0), .bl true)])) := samePut (samePut (samePut s2 nsd0) nt'0) nsd0
    have hrl3 : (upd (upd (upd H2 sd (.dT [])) t' (.tup [.int 0, .int 0])) sd (.dT [(pk (0, 0), .bl true)])) rl = some (.lst ([t].map V.ref)) := by
      rw [upd_ne nrs, upd_ne (ne_of_none hrl2 nt'2), upd_ne nrs]; exact hrl2
    have ht3 : (upd (upd (upd H2 sd (.dT [])) t' (.tup [.int 0, .int 0])) sd (.dT [(pk (0, 0), .bl true)])) t = some (.tup (pkV (0, 0))) := by
      rw [upd_ne (ne_of_none ht2 nsd), upd_ne (ne_of_none ht2 nt'2), upd_ne (ne_of_none ht2 nsd)]; exact ht2
    have hsd3 : (upd (upd (upd H2 sd (.dT [])) t' (.tup [.int 0, .int 0])) sd (.dT [(pk (0, 0), .bl true)])) sd = some (.dT [(pk (0, 0), .bl true)]) := upd_same
    generalize upd (upd (upd H2 sd (.dT [])) t' (.tup [.int 0, .int 0])) sd (.dT [(pk (0, 0), .bl true)]) = H3 at s3 hrl3 ht3 hsd3
    refine ⟨fun m σ H4 => ∃ (y5 y6 y7 y8 : Option V) (bs : List Addr) (kvs : List (List Key × V)) (rows : List (Nat × Nat)) (at' : Nat), σ = [some (.ref a), some (.ref b), some (.ref rl), some (.ref sd), some (.int (at' : Nat)), y5, y6, y7, y8] ∧ m = G.length * M.length + 1 - at' ∧ at' ≤ rows.length ∧ Same H H4 ∧ H4 rl = some (.lst (bs.map V.ref)) ∧ H4 sd = some (.dT kvs) ∧ PairsV H4 bs rows ∧ SeenOk kvs rows ∧ Lw.CmpInv G M rows at',
      ⟨_, none, none, none, none, [t], _, [(0, 0)], 0, rfl, rfl, Nat.zero_le _, s3, hrl3, hsd3, ⟨rfl, fun i c x h1 h2 => ?_⟩, SeenOk.one _, Lw.CmpInv.start okG.ok okM.ok⟩, fun m σ H4 hW => ?_⟩
    · cases i with
      | zero => cases h1; cases h2; exact ht3
      | succ i => cases h1
    obtain ⟨y5, y6, y7, y8, bs, kvs, rows, at', rfl, rfl, hat, s4, hrl4, hsd4, hp4, hs4, I⟩ := hW
    have hbs := hp4.len
    have hle := I.le
    have fewG := okG.few
    have fewM := okM.few
    have hmul : G.length * M.length ≤ 100 * 100 := Nat.mul_le_mul fewG fewM
    refine ⟨.int (at' : Nat), rfl, .ref rl, rfl, rl, _, rfl, .inl (SqL.of hrl4), at', _, rfl, rfl, _, rfl, ite2 (fun e => ?_) (fun e => ?_)⟩
    ·
      have e1 := of_decide_eq_true e
      rw [List.length_map] at e1
      have hlt : at' < rows.length := by omega
      obtain ⟨⟨i, j⟩, hij⟩ : ∃ x, rows[at']? = some x := ⟨_, List.getElem?_eq_getElem hlt⟩
      obtain ⟨c, hc⟩ : ∃ c, bs[at']? = some c := ⟨_, List.getElem?_eq_getElem (by omega)⟩
      have hcc := hp4.at' at' c (i, j) hc hij
      have hm1 : (i, j) ∈ rows := List.mem_of_getElem? hij
      obtain ⟨li, lj⟩ := I.lt _ hm1
      have li : i < G.length := li
      have lj : j < M.length := lj
      obtain ⟨ai, hai⟩ : ∃ c, as[i]? = some c := ⟨_, List.getElem?_eq_getElem (by rw [hn.len]; exact li)⟩
      obtain ⟨cj, hcj⟩ : ∃ c, cs[j]? = some c := ⟨_, List.getElem?_eq_getElem (by rw [hm.len]; exact lj)⟩
      refine ⟨_, fun σ' H' h => h, ?_⟩
      refine ⟨.ref rl, rfl, .int (at' : Nat), rfl, rl, _, _, _, rfl, rfl, SqL.of hrl4, atI_nat (map_ref_get hc), c, pkV (i, j), rfl, SqT.of hcc, rfl, _, _, rfl, _, _, rfl, rfl, ?_⟩
      refine ⟨_, rfl, _, 1, rfl, rfl, ?_⟩
      refine ⟨.ref a, rfl, .int (i : Nat), rfl, a, _, _, _, rfl, rfl, SqT.of (s4 _ _ ha), atI_nat (map_ref_get hai), .ref b, rfl, .int (j : Nat), rfl, b, _, _, _, rfl, rfl, SqT.of (s4 _ _ hb), atI_nat (map_ref_get hcj), ai, cj, Lw.at_ G i, Lw.at_ M j, rfl, (hn.node i ai hai).keep (TK.of s4), (hm.node j cj hcj).keep (TK.of s4), okG.nodes i li, okM.nodes j lj, fun r H5 s45 hr0 => ?_⟩
      have s5 : Same H H5 := s4.trans s45
      refine ⟨.int r, rfl, rfl, _, rfl, ?_⟩
      by_cases h0 : r = 0
      · have hd : (Lw.at_ G i).hd = (Lw.at_ M j).hd := hr0.mp h0
        rw [show (!decide (V.int r = V.int 0)) = false by rw [h0]; simp]
        have hl := Lw.hd_len hd
        have hpl : (Lw.at_ G i).parts.length ≤ 6 := (okG.nodes i li).parts
        refine ⟨.ref a, rfl, .int (i : Nat), rfl, a, _, _, _, rfl, rfl, SqT.of (s5 _ _ ha), atI_nat (map_ref_get hai), ai, Lw.at_ G i, rfl, (hn.node i ai hai).keep (TK.of s5), fun p1 H6 s56 hp1 => ?_⟩
        have s6 : Same H H6 := s5.trans s56
        refine ⟨.ref b, rfl, .int (j : Nat), rfl, b, _, _, _, rfl, rfl, SqT.of (s6 _ _ hb), atI_nat (map_ref_get hcj), cj, Lw.at_ M j, rfl, (hm.node j cj hcj).keep (TK.of s6), fun p2 H7 s67 hp2 => ?_⟩
        have s7 : Same H H7 := s6.trans s67
        have s47 : Same H4 H7 := s45.trans (s56.trans s67)
        have hp1' := s67 _ _ hp1
        refine ⟨p1, p2, _, _, rfl, SqT.of hp1', SqT.of hp2, ?_⟩
        have eln : (intsV (Lw.at_ G i).parts).length = (intsV (Lw.at_ M j).parts).length := by rw [intsV_len, intsV_len, hl]
        refine RZ.for_zipT (K := K) (a := p1) (b := p2) eln (fun n σ H8 => ∃ (y8 : Option V) (bs : List Addr) (kvs : List (List Key × V)), σ = [some (.ref a), some (.ref b), some (.ref rl), some (.ref sd), some (.int ((at' : Int) + 1)), some (.int (i : Nat)), some (.int (j : Nat)), some (.int r), y8] ∧ Same H H8 ∧ (∀ b o, b ≠ rl → b ≠ sd → H7 b = some o → H8 b = some o) ∧ H8 rl = some (.lst (bs.map V.ref)) ∧ H8 sd = some (.dT kvs) ∧
          PairsV H8 bs (Lw.addNew rows (((Lw.at_ G i).parts.zip (Lw.at_ M j).parts).take n)) ∧ SeenOk kvs (Lw.addNew rows (((Lw.at_ G i).parts.zip (Lw.at_ M j).parts).take n))) ?_ ?_ ?_ ?_
        · exact ⟨y8, bs, kvs, rfl, s7, fun b o _ _ e => e, s47 _ _ hrl4, s47 _ _ hsd4, hp4.keep (TK.of s47), hs4⟩
        · rintro n σ H8 ⟨z8, bs, kvs, rfl, g1, g2, g3, g4, _⟩
          exact ⟨SqT.of (g2 _ _ (ne_of hp1 (s56 _ _ (s45 _ _ hrl4)) (fun z => nomatch z)) (ne_of hp1 (s56 _ _ (s45 _ _ hsd4)) (fun z => nomatch z)) hp1'), SqT.of (g2 _ _ (ne_of hp2 (s47 _ _ hrl4) (fun z => nomatch z)) (ne_of hp2 (s47 _ _ hsd4) (fun z => nomatch z)) hp2)⟩
        · rintro n x y T σ H8 hx hy ⟨z8, bs, kvs, rfl, g1, g2, g3, g4, g5, g6⟩ nT
          have hnl : n < (Lw.at_ G i).parts.length := by
            have := (List.getElem?_eq_some_iff.mp hx).1
            rw [intsV_len] at this; exact this
          have gp : (Lw.at_ G i).parts[n]? = some (Lw.at_ G i).parts[n] := List.getElem?_eq_getElem hnl
          have gq : (Lw.at_ M j).parts[n]? = some ((Lw.at_ M j).parts[n]'(by omega)) := List.getElem?_eq_getElem _
          have ex : x = V.int (((Lw.at_ G i).parts[n] : Nat)) := Option.some.inj (hx.symm.trans (intsV_get gp))
          have ey : y = V.int (((Lw.at_ M j).parts[n]'(by omega) : Nat)) := Option.some.inj (hy.symm.trans (intsV_get gq))
          generalize hpp : (Lw.at_ G i).parts[n] = pp at gp ex
          generalize hqq : (Lw.at_ M j).parts[n]'(by omega) = qq at gq ey
          subst ex ey
          have gz : ((Lw.at_ G i).parts.zip (Lw.at_ M j).parts)[n]? = some (pp, qq) := by rw [List.getElem?_zip_eq_some]; exact ⟨gp, gq⟩
          have sT : Same H8 (upd H8 T (.tup (pkV (pp, qq)))) := same_upd nT
          have hT : (upd H8 T (.tup (pkV (pp, qq)))) T = some (.tup ((pk (pp, qq)).map kV)) := upd_same
          have esame : upd H8 T (.tup [.int (pp : Nat), .int (qq : Nat)]) = upd H8 T (.tup (pkV (pp, qq))) := rfl
          rw [esame]
          generalize upd H8 T (.tup (pkV (pp, qq))) = H9 at sT hT
          have s9 : Same H H9 := g1.trans sT
          have hrl9 := sT _ _ g3
          have hsd9 := sT _ _ g4
          rw [Lw.addNew_take gz]
          refine ⟨_, rfl, .ref sd, rfl, sd, _, rfl, DGet.t hsd9 hT, _, rfl, ?_⟩
          have g29 : ∀ b o, b ≠ rl → b ≠ sd → H7 b = some o → H9 b = some o := fun b o n1 n2 e => sT _ _ (g2 b o n1 n2 e)
          have g59 := g5.keep (TK.of sT)
          by_cases hmem : (pp, qq) ∈ Lw.addNew rows (((Lw.at_ G i).parts.zip (Lw.at_ M j).parts).take n)
          · rw [(g6.mem _).mpr hmem, if_pos hmem]
            exact ⟨_, bs, kvs, rfl, s9, g29, hrl9, hsd9, g59, g6⟩
          · have hno : (valV kvs (pk (pp, qq))).isSome = false := by
              cases h : (valV kvs (pk (pp, qq))).isSome with
              | false => rfl
              | true => exact absurd ((g6.mem _).mp h) hmem
            rw [hno, if_neg hmem]
            have hzl : (((Lw.at_ G i).parts.zip (Lw.at_ M j).parts).take n).length ≤ 6 := by
              rw [List.length_take, List.length_zip]; omega
            have hal : (Lw.addNew rows (((Lw.at_ G i).parts.zip (Lw.at_ M j).parts).take n)).length ≤ rows.length + 6 := Nat.le_trans (addNew_le _ _) (by omega)
            have hkl := g6.few
            refine ⟨.ref sd, rfl, _, rfl, sd, _, rfl, DPut.t hsd9 hT (small_size (by omega)), ?_⟩
            have s10 : Same H (upd H9 sd (.dT (putK kvs (pk (pp, qq)) (.bl true)))) := samePut s9 nsd0
            have hrl10 : (upd H9 sd (.dT (putK kvs (pk (pp, qq)) (.bl true)))) rl = some (.lst (bs.map V.ref)) := by rw [upd_ne nrs]; exact hrl9
            have hsd10 : (upd H9 sd (.dT (putK kvs (pk (pp, qq)) (.bl true)))) sd = some (.dT (putK kvs (pk (pp, qq)) (.bl true))) := upd_same
            have g210 : ∀ b o, b ≠ rl → b ≠ sd → H7 b = some o → (upd H9 sd (.dT (putK kvs (pk (pp, qq)) (.bl true)))) b = some o := fun b o n1 n2 e => by rw [upd_ne n2]; exact g29 b o n1 n2 e
            have tk910 : TK H9 (upd H9 sd (.dT (putK kvs (pk (pp, qq)) (.bl true)))) := sameBut_upd.tk hsd9 (fun xs z => nomatch z)
            have g510 := g59.keep tk910
            have hT10 := tk910 _ _ hT
            generalize upd H9 sd (.dT (putK kvs (pk (pp, qq)) (.bl true))) = H10 at s10 hrl10 hsd10 g210 g510 hT10
            have hbl := g5.len
            refine ⟨.ref rl, rfl, .inl ⟨rfl, _, SqL.of hrl10⟩, _, rfl, rl, _, _, rfl, rfl, hrl10, by rw [List.length_map]; exact small_size (by omega), ?_⟩
            have tk11 : TK H10 (upd H10 rl (.lst (bs.map V.ref ++ [V.ref T]))) := sameBut_upd.tk hrl10 (fun xs z => nomatch z)
            exact ⟨_, bs ++ [T], _, rfl, samePut s10 nrl0, fun b o n1 n2 e => by rw [upd_ne n1]; exact g210 b o n1 n2 e, by rw [upd_same, List.map_append]; rfl, by rw [upd_ne nrs.symm]; exact hsd10, (g510.keep tk11).snoc (tk11 _ _ hT10), g6.put _ _⟩
        · rintro σ H8 ⟨z8, bs, kvs, rfl, g1, g2, g3, g4, g5, g6⟩
          have etk : ((Lw.at_ G i).parts.zip (Lw.at_ M j).parts).take (intsV (Lw.at_ G i).parts).length = (Lw.at_ G i).parts.zip (Lw.at_ M j).parts := by
            rw [intsV_len]
            exact List.take_of_length_le (by rw [List.length_zip]; omega)
          rw [etk] at g5 g6
          have I' := I.next okG.ok okM.ok hij hd
          have := Lw.addNew_len (rows := rows) (ps := (Lw.at_ G i).parts.zip (Lw.at_ M j).parts)
          exact ⟨G.length * M.length + 1 - (at' + 1), by omega, _, _, _, _, bs, kvs, _, at' + 1, rfl, rfl, by omega, g1, g3, g4, g5, g6, I'⟩
      · rw [show (!decide (V.int r = V.int 0)) = true by
          have : ¬ V.int r = V.int 0 := fun z => h0 (V.int.inj z)
          rw [decide_eq_false this]; rfl]
        exact ⟨.int r, rfl, q r H5 s5 ⟨fun z => absurd z h0, fun bis => absurd bis (I.diff hij fun z => h0 (hr0.mpr z))⟩⟩
    ·
      have e1 := of_decide_eq_false (Bool.not_eq_true _ ▸ e)
      rw [List.length_map] at e1
      exact q 0 H4 s4 ⟨fun _ => I.stop (by omega), fun _ => rfl⟩
end
end LwW
set_option maxHeartbeats 4000000
namespace LwW
open PySem PySem.Spec PyProof.Rows L2 LwR
structure OrdOk (kvs : List (List Key × V)) (rows : List (Nat × Nat)) : Prop where
  few : kvs.length ≤ rows.length
  mem : ∀ x, (valV kvs (pk x)).isSome = true ↔ x ∈ rows
  at' : ∀ x v, valV kvs (pk x) = some v → ∃ i : Nat, v = .int (i : Nat) ∧ rows[i]? = some x
theorem OrdOk.put {kvs : List (List Key × V)} {rows : List (Nat × Nat)} (h : OrdOk kvs rows) (x : Nat × Nat) : OrdOk (putK kvs (pk x) (.int (rows.length : Nat))) (rows ++ [x]) := by
  refine ⟨?_, fun y => ?_, fun y v hv => ?_⟩
  · have := length_putK kvs (pk x) (.int (rows.length : Nat))
    have := h.few
    rw [List.length_append, List.length_singleton]; omega
  · rw [valV_put, List.mem_append, List.mem_singleton]
    by_cases e : pk y = pk x
    · rw [if_pos e]
      exact ⟨fun _ => .inr (pk_inj e), fun _ => rfl⟩
    · rw [if_neg e, h.mem]
      exact ⟨.inl, fun z => z.elim id fun z => absurd (by rw [z]) e⟩
  · rw [valV_put] at hv
    by_cases e : pk y = pk x
    · rw [if_pos e] at hv
      refine ⟨rows.length, (Option.some.inj hv).symm, ?_⟩
      rw [List.getElem?_append_right (Nat.le_refl _), Nat.sub_self, pk_inj e]; rfl
    · rw [if_neg e] at hv
      obtain ⟨i, e1, e2⟩ := h.at' y v hv
      exact ⟨i, e1, by rw [List.getElem?_append_left (List.getElem?_eq_some_iff.mp e2).1]; exact e2⟩
theorem OrdOk.one : OrdOk [(pk (0, 0), .int 0)] [(0, 0)] := by
  have := (OrdOk.put (kvs := []) (rows := []) ⟨Nat.le_refl _, fun x => by simp [valV_nil], fun x v h => by simp [valV_nil] at h⟩ (0, 0))
  exact this
theorem cut_ok {cw : Str} {rows : List (Nat × Nat)} {d l : Nat} {a b : Nd} (hc : AtomOk cw) (h : Lw.cutRel cw rows d l a b) (ha : NdOk a) : NdOk b := by
  cases a with
  | tup s ps =>
    rw [Lw.cutRel_tup] at h
    by_cases e : l = d
    · rw [if_pos e] at h; subst h; exact hc
    · rw [if_neg e] at h
      obtain ⟨qs, rfl, e2, _⟩ := h
      exact ⟨ha.1, by rw [e2]; exact ha.2⟩
  | var n => have e : b = _ := h; subst e; exact ha
  | int n => have e : b = _ := h; subst e; exact ha
  | atom s => have e : b = _ := h; subst e; exact ha
  | name s n => have e : b = _ := h; subst e; exact ha
theorem atom_cut : AtomOk ("cut" : Str) := by
  refine ⟨?_, ?_, ?_⟩ <;> decide +kernel
theorem CutOk_gok {G C : Gr} {d : Nat} (g : Gok G) (h20 : G.length ≤ 20) (hd : d ≤ 3) (c : Lw.CutOk ("cut" : Str) G d C) : Gok C := by
  refine ⟨c.ok, ?_, fun i hi => ?_⟩
  · have h1 := c.len
    have h2 : G.length * (d + 1) ≤ 20 * 4 := Nat.mul_le_mul h20 (by omega)
    omega
  · obtain ⟨rows, I, hl⟩ := c
    have gr : rows[i]? = some (rows[i]'(by omega)) := List.getElem?_eq_getElem (by omega)
    have hv := (I.lt _ (List.mem_of_getElem? gr)).1
    exact cut_ok atom_cut (I.node i hi _ _ gr) (g.nodes _ hv)
abbrev sCut : Stmt := topS 16
theorem scCut : FnScope ["graph", "depth", "order", "rows", "found", "at", "node", "level", "numbers", "part", "key"] ["graph", "depth"] (defScope sCut) := ⟨rfl, rfl, rfl, by decide +kernel, rfl, by decide +kernel, by decide +kernel⟩
section
variable {P : Program} {w : World} {K : PySem.W.Frag} {mg : Str → Option Value} {base : Heap}
def spCut (K : PySem.W.Frag) : Sp := fun vs H Q _ => ∃ (a : Addr) (G : Gr) (d : Nat), vs = [.ref a, .int (d : Nat)] ∧ GrV H a G ∧ Gok G ∧ G.length ≤ 20 ∧ d ≤ 3 ∧
  ∀ (p : Addr) (C L : Gr) (H' : Hp), Same H H' → Lw.CutOk ("cut" : Str) G d C → Gok C → Lw.Least C L → GrV H' p L → Q (.ref p) H'
def CutW (H : Hp) (G : Gr) (d : Nat) (a od rl ff : Addr) (m : Nat) (σ : L2.St) (H4 : Hp) : Prop :=
  ∃ (y6 y7 y8 y9 y10 : Option V) (bs fs : List Addr) (kvs : List (List Key × V)) (rows : List (Nat × Nat)) (C : Gr), σ = [some (.ref a), some (.int (d : Nat)), some (.ref od), some (.ref rl), some (.ref ff), some (.int (C.length : Nat)), y6, y7, y8, y9, y10] ∧ m = G.length * (d + 1) + 1 - C.length ∧ C.length ≤ rows.length ∧ Same H H4 ∧ H4 od = some (.dT kvs) ∧ H4 rl = some (.lst (bs.map V.ref)) ∧ H4 ff = some (.lst (fs.map V.ref)) ∧ PairsV H4 bs rows ∧ NodesV H4 fs C ∧ OrdOk kvs rows ∧ Lw.CutInv ("cut" : Str) G d rows C
theorem ok_cut {f fL : Addr} {fd fdL : FuncData} {k : Nat} (F : Fun K "cut" "cut" sCut f fd) (B : Blt mg)
    (GL : FnOk P w K mg base CX0 (k + 4) fL fdL ["graph"] (spLeast K)) (kL : PySem.W.keepIn K (.ref fL) = true) (bL : Binds K fdL ["graph"] []) (gL : mg "checked" = some (.ref fL)) : FnOk P w K mg base CX0 (k + 5) f fd ["graph", "depth"] (spCut K) := by
  refine F.ok scCut (fun vs H Q E h => ?_) (fun cdv A outer s H vs Q E hr h => ?_)
  · obtain ⟨a, G, d, rfl, _⟩ := h
    rfl
  · obtain ⟨a, G, d, rfl, hG, ok, h20, hd3, q⟩ := h
    obtain ⟨as, ha, hn⟩ := hG
    refine ⟨_, pss_cons (ps_set (i := 2) scCut.nd rfl (.inl rfl) (pe_dispT1 (hu_of hr) (pe_tup (pa_cons pe_int (pa_cons pe_int pa_nil))) pe_int))
      (pss_cons (ps_set (i := 3) scCut.nd rfl (.inl rfl) (pe_lst (pa_cons (pe_tup (pa_cons pe_int (pa_cons pe_int pa_nil))) pa_nil)))
      (pss_cons (ps_set (i := 4) scCut.nd rfl (.inl rfl) (pe_lst pa_nil))
      (pss_cons (ps_set (i := 5) scCut.nd rfl (.inl rfl) pe_int)
      (pss_cons (ps_while PassesOwn.never (pt_cmpR op_lt (pv 5) (pe_callB call_len_seq (by rfl) B.len PySem.boot_len (pa_cons (pv 3) pa_nil)) (nomark _))
        (pss_cons (ps_asg (pe_ix ix_list (pv 3) (pv 5) (fun _ _ => rfl)) (pg_tup rfl (pgs_cons (pg_name (i := 6) scCut.nd rfl (.inl rfl)) (pgs_cons (pg_name (i := 7) scCut.nd rfl (.inl rfl)) pgs_nil))))
        (pss_cons (ps_aug (i := 5) scCut.nd rfl (.inl rfl) pe_int ip_add)
        (pss_one (ps_if (PW.pt (pw_and (pt_cmpR op_eq (pe_ix ix_tup (pe_ix ix_tup (pv 0) (pv 6) (fun _ _ => rfl)) pe_int (fun _ _ => rfl)) pe_str (nomark _)) (pw_and1 (pt_cmpR op_eq (pv 7) (pv 1) (nomark _)))))
          (pss_one (ps_expr (pe_bm PySem.F.plainAttrs_list PySem.F.slot_list_append PySem.F.type_list_append mt_append (pv 4) (pa_cons (pe_tup (pa_cons pe_str (pa_cons pe_str pa_nil))) pa_nil))))
          (pss_one (ps_if (pt_cmpR op_eq (pe_ix ix_tup (pe_ix ix_tup (pv 0) (pv 6) (fun _ _ => rfl)) pe_int (fun _ _ => rfl)) pe_str (nomark _))
            (pss_cons (ps_set (i := 8) scCut.nd rfl (.inl rfl) (pe_lst pa_nil))
            (pss_cons (ps_for PassesOwn.never rfl (pi_tup (pe_ix ix_tup (pe_ix ix_tup (pv 0) (pv 6) (fun _ _ => rfl)) pe_int (fun _ _ => rfl))) (pg_name (i := 9) scCut.nd rfl (.inl rfl))
              (pss_cons (ps_set (i := 10) scCut.nd rfl (.inl rfl) (pe_tup (pa_cons (pv 9) (pa_cons (pe_op op_add (pv 7) pe_int) pa_nil))))
              (pss_cons (ps_if (pt_cmp (pc_dnotin (hu_of hr) (pv 10) (pv 2)))
                (pss_cons (ps_dput (hu_of hr) (pv 2) (pv 10) (pe_callB call_len_seq (by rfl) B.len PySem.boot_len (pa_cons (pv 3) pa_nil)) rfl)
                (pss_one (ps_expr (pe_bm PySem.F.plainAttrs_list PySem.F.slot_list_append PySem.F.type_list_append mt_append (pv 3) (pa_cons (pv 10) pa_nil))))) pss_nil)
              (pss_one (ps_expr (pe_bm PySem.F.plainAttrs_list PySem.F.slot_list_append PySem.F.type_list_append mt_append (pv 8) (pa_cons (pe_dget (hu_of hr) (pv 2) (pv 10) (fun _ _ => rfl)) pa_nil)))))))
            (pss_one (ps_expr (pe_bm PySem.F.plainAttrs_list PySem.F.slot_list_append PySem.F.type_list_append mt_append (pv 4)
              (pa_cons (pe_tup (pa_cons pe_str (pa_cons (pe_ix ix_tup (pe_ix ix_tup (pv 0) (pv 6) (fun _ _ => rfl)) pe_int (fun _ _ => rfl)) (pa_cons (pe_tupleOf (by rfl) B.tuple (pv 8)) pa_nil)))) pa_nil))))))
            (pss_one (ps_expr (pe_bm PySem.F.plainAttrs_list PySem.F.slot_list_append PySem.F.type_list_append mt_append (pv 4) (pa_cons (pe_ix ix_tup (pv 0) (pv 6) (fun _ _ => rfl)) pa_nil)))))))))))
      (pss_one (ps_ret (pe_call GL hr (by rfl) gL kL bL .nil pass0 (pa_cons (pe_tupleOf (by rfl) B.tuple (pv 4)) pa_nil)))))))), ?_⟩
    refine fun od nod => ⟨by show 2 ≤ sizeLine; decide, fun t' nt' => ?_⟩
    have nts : od ≠ t' := fun e => by rw [← e, upd_same] at nt'; cases nt'
    have nt'0 : H t' = none := by rw [upd_ne nts.symm] at nt'; exact nt'
    refine ⟨t', pk (0, 0), rfl, upd_same, by rw [upd_ne nts, upd_same], ?_⟩
    have s1 : Same H (upd (upd (upd H od (.dT [])) t' (.tup [.int 0, .int 0])) od (.dT [(pk (0, 0), .int 0)])) := samePut (samePut (samePut (Same.refl H) nod) nt'0) nod
    have hod1 : (upd (upd (upd H od (.dT [])) t' (.tup [.int 0, .int 0])) od (.dT [(pk (0, 0), .int 0)])) od = some (.dT [(pk (0, 0), .int 0)]) := upd_same
    generalize upd (upd (upd H od (.dT [])) t' (.tup [.int 0, .int 0])) od (.dT [(pk (0, 0), .int 0)]) = H1 at s1 hod1
    refine ⟨by show 2 ≤ sizeLine; decide, fun t nt => ⟨by show 1 ≤ sizeLine; decide, fun rl nrl => ?_⟩⟩
    have s2 : Same H (upd H1 t (.tup [.int 0, .int 0])) := samePut s1 (s1.free nt)
    have ht2 : (upd H1 t (.tup [.int 0, .int 0])) t = some (.tup (pkV (0, 0))) := upd_same
    have hod2 : (upd H1 t (.tup [.int 0, .int 0])) od = some (.dT [(pk (0, 0), .int 0)]) := by rw [upd_ne (ne_of_none hod1 nt)]; exact hod1
    generalize upd H1 t (.tup [.int 0, .int 0]) = H2 at s2 ht2 hod2 nrl
    have nrl0 : H rl = none := s2.free nrl
    have nor : od ≠ rl := ne_of_none hod2 nrl
    have s3 : Same H (upd H2 rl (.lst [.ref t])) := samePut s2 nrl0
    have ht3 : (upd H2 rl (.lst [.ref t])) t = some (.tup (pkV (0, 0))) := by rw [upd_ne (ne_of_none ht2 nrl)]; exact ht2
    have hod3 : (upd H2 rl (.lst [.ref t])) od = some (.dT [(pk (0, 0), .int 0)]) := by rw [upd_ne nor]; exact hod2
    have hrl3 : (upd H2 rl (.lst [.ref t])) rl = some (.lst ([t].map V.ref)) := upd_same
    generalize upd H2 rl (.lst [.ref t]) = H3 at s3 ht3 hod3 hrl3
    refine ⟨Nat.zero_le _, fun ff nff => ?_⟩
    have nff0 : H ff = none := s3.free nff
    have nof : od ≠ ff := ne_of_none hod3 nff
    have nrf : rl ≠ ff := ne_of_none hrl3 nff
    have s4 : Same H (upd H3 ff (.lst [])) := samePut s3 nff0
    refine ⟨CutW H G d a od rl ff,
      ⟨_, none, none, none, none, none, [t], [], _, [(0, 0)], [], rfl, rfl, Nat.zero_le _, s4, by rw [upd_ne nof]; exact hod3, by rw [upd_ne nrf]; exact hrl3, upd_same, ⟨rfl, fun i c x h1 h2 => ?_⟩, .nil, OrdOk.one, Lw.CutInv.start ok.ok⟩, fun m σ H4 hW => ?_⟩
    · cases i with
      | zero => cases h1; cases h2; rw [upd_ne (ne_of_none ht3 nff)]; exact ht3
      | succ i => cases h1
    obtain ⟨y6, y7, y8, y9, y10, bs, fs, kvs, rows, C, rfl, rfl, hat, s4, hod4, hrl4, hff4, hp4, hf4, ho4, I⟩ := hW
    have hbs := hp4.len
    have hfs := hf4.len
    have hle := I.le
    have hmul : G.length * (d + 1) ≤ 20 * 4 := Nat.mul_le_mul h20 (by omega)
    refine ⟨.int (C.length : Nat), rfl, .ref rl, rfl, rl, _, rfl, .inl (SqL.of hrl4), C.length, _, rfl, rfl, _, rfl, ite2 (fun e => ?_) (fun e => ?_)⟩
    ·
      have e1 := of_decide_eq_true e
      rw [List.length_map] at e1
      have hlt : C.length < rows.length := by omega
      obtain ⟨⟨v, l⟩, hvl⟩ : ∃ x, rows[C.length]? = some x := ⟨_, List.getElem?_eq_getElem hlt⟩
      obtain ⟨c, hc⟩ : ∃ c, bs[C.length]? = some c := ⟨_, List.getElem?_eq_getElem (by omega)⟩
      have hcc := hp4.at' C.length c (v, l) hc hvl
      obtain ⟨lv, ll⟩ := I.lt _ (List.mem_of_getElem? hvl)
      have lv : v < G.length := lv
      have ll : l < d + 1 := ll
      obtain ⟨av, hav⟩ : ∃ c, as[v]? = some c := ⟨_, List.getElem?_eq_getElem (by rw [hn.len]; exact lv)⟩
      have hnode := (hn.node v av hav).keep (TK.of s4)
      obtain ⟨z, hi, hz⟩ := hnode.items
      refine ⟨_, fun σ' H' h => h, ?_⟩
      refine ⟨.ref rl, rfl, .int (C.length : Nat), rfl, rl, _, _, _, rfl, rfl, SqL.of hrl4, atI_nat (map_ref_get hc), c, pkV (v, l), rfl, SqT.of hcc, rfl, _, _, rfl, _, _, rfl, rfl, ?_⟩
      refine ⟨_, rfl, _, 1, rfl, rfl, ?_⟩
      refine ⟨.ref a, rfl, .int (v : Nat), rfl, a, _, _, _, rfl, rfl, SqT.of (s4 _ _ ha), atI_nat (map_ref_get hav), av, _, 0, _, rfl, rfl, SqT.of hi, atI_nat (j := 0) (items0 z _), rfl, _, rfl, ?_⟩
      have fin : ∀ (r : Addr) (nd : Nd) (H9 : Hp) (bs' : List Addr) (kvs' : List (List Key × V)) (rows' : List (Nat × Nat)), NodeV H9 r nd → Same H H9 → H9 od = some (.dT kvs') → H9 rl = some (.lst (bs'.map V.ref)) → H9 ff = some (.lst (fs.map V.ref)) → PairsV H9 bs' rows' → NodesV H9 fs C → OrdOk kvs' rows' → Lw.CutInv ("cut" : Str) G d rows' (C ++ [nd]) → C.length + 1 ≤ rows'.length →
          ∀ w8 w9 w10 : Option V, ∃ m', m' < G.length * (d + 1) + 1 - C.length ∧ CutW H G d a od rl ff m' [some (.ref a), some (.int (d : Nat)), some (.ref od), some (.ref rl), some (.ref ff), some (.int ((C.length : Int) + 1)), some (.int (v : Nat)), some (.int (l : Nat)), w8, w9, w10] (upd H9 ff (.lst (fs.map V.ref ++ [V.ref r]))) := fun r nd H9 bs' kvs' rows' h1 h2 h3 h4 h5 h6 h7 h8 h9 h10 w8 w9 w10 => by
        have tk : TK H9 (upd H9 ff (.lst (fs.map V.ref ++ [V.ref r]))) := sameBut_upd.tk h5 (fun xs z => nomatch z)
        have hle' := h9.le
        refine ⟨G.length * (d + 1) + 1 - (C.length + 1), by omega, some (.int (v : Nat)), some (.int (l : Nat)), w8, w9, w10, bs', fs ++ [r], kvs', rows', C ++ [nd], ?_, ?_, ?_, samePut h2 nff0, by rw [upd_ne nof]; exact h3, by rw [upd_ne nrf]; exact h4, by rw [upd_same, List.map_append]; rfl, h6.keep tk, (h7.keep tk).snoc (h1.keep tk), h8, h9⟩
        · rw [List.length_append, List.length_singleton]; rfl
        · rw [List.length_append, List.length_singleton]
        · rw [List.length_append, List.length_singleton]; exact h10
      have ffl : (fs.map V.ref).length < sizeLine := by rw [List.length_map]; exact small_size (by omega)
      by_cases hw : word (Lw.at_ G v) = "tuple"
      · rw [decide_eq_true (show V.str (word (Lw.at_ G v)) = V.str "tuple" by rw [hw])]
        obtain ⟨s1, ps, eG⟩ := (word_tup _).mp hw
        refine ⟨_, rfl, .int (d : Nat), rfl, rfl, _, rfl, ?_⟩
        by_cases hl : l = d
        · rw [decide_eq_true (show V.int (l : Nat) = V.int (d : Nat) by rw [hl])]
          refine ⟨.ref ff, rfl, .inl ⟨rfl, _, SqL.of hff4⟩, by show 2 ≤ sizeLine; decide, fun r nr => ?_⟩
          have sr : Same H4 (upd H4 r (.tup [.str "atom", .str "cut"])) := same_upd nr
          have hr9 : NodeV (upd H4 r (.tup [.str "atom", .str "cut"])) r (.atom "cut") := upd_same
          generalize upd H4 r (.tup [.str "atom", .str "cut"]) = H9 at sr hr9
          refine ⟨ff, _, _, rfl, rfl, sr _ _ hff4, ffl, ?_⟩
          exact fin r (.atom "cut") H9 bs kvs rows hr9 (s4.trans sr) (sr _ _ hod4) (sr _ _ hrl4) (sr _ _ hff4) (hp4.keep (TK.of sr)) (hf4.keep (TK.of sr)) ho4 (I.leaf hvl (by rw [eG, Lw.cutRel_tup, if_pos hl])) hlt _ _ _
        · rw [decide_eq_false (show ¬ V.int (l : Nat) = V.int (d : Nat) from fun z => hl (Int.ofNat.inj (V.int.inj z)))]
          refine ⟨.ref a, rfl, .int (v : Nat), rfl, a, _, _, _, rfl, rfl, SqT.of (s4 _ _ ha), atI_nat (map_ref_get hav), av, _, 0, _, rfl, rfl, SqT.of hi, atI_nat (j := 0) (items0 z _), rfl, _, rfl, ?_⟩
          rw [decide_eq_true (show V.str (word (Lw.at_ G v)) = V.str "tuple" by rw [hw])]
          have hz1 := hz _ _ eG
          rw [eG] at hi
          have hpl : ps.length ≤ 6 := by
            have := (ok.nodes _ lv).parts
            rw [eG] at this; exact this
          refine ⟨Nat.zero_le _, fun nl nnl => ?_⟩
          have nnl0 : H nl = none := s4.free nnl
          have non : od ≠ nl := ne_of_none hod4 nnl
          have nrn : rl ≠ nl := ne_of_none hrl4 nnl
          have nfn : ff ≠ nl := ne_of_none hff4 nnl
          have sn : Same H4 (upd H4 nl (.lst [])) := same_upd nnl
          have hnl5 : (upd H4 nl (.lst [])) nl = some (.lst (intsV [])) := upd_same
          generalize upd H4 nl (.lst []) = H5 at sn hnl5
          refine ⟨.ref a, rfl, .int (v : Nat), rfl, a, _, _, _, rfl, rfl, SqT.of (sn _ _ (s4 _ _ ha)), atI_nat (map_ref_get hav), av, _, 2, .ref z, rfl, rfl, SqT.of (sn _ _ hi), atI_nat (j := 2) rfl, z, rfl, ⟨_, SqT.of (sn _ _ hz1)⟩, ?_⟩
          have nzo : z ≠ od := ne_of hz1 hod4 (fun z => nomatch z)
          have nzr : z ≠ rl := ne_of hz1 hrl4 (fun z => nomatch z)
          have nzn : z ≠ nl := ne_of_none hz1 nnl
          refine for_tup (K := K) (a := z) (xs := intsV ps) (fun n σ H8 => ∃ (w9 w10 : Option V) (bs : List Addr) (kvs : List (List Key × V)) (qs : List Nat), σ = [some (.ref a), some (.int (d : Nat)), some (.ref od), some (.ref rl), some (.ref ff), some (.int ((C.length : Int) + 1)), some (.int (v : Nat)), some (.int (l : Nat)), some (.ref nl), w9, w10] ∧ Same H H8 ∧ (∀ b o, b ≠ od → b ≠ rl → b ≠ nl → H5 b = some o → H8 b = some o) ∧ H8 od = some (.dT kvs) ∧ H8 rl = some (.lst (bs.map V.ref)) ∧ H8 nl = some (.lst (intsV qs)) ∧ qs.length = min n ps.length ∧
            PairsV H8 bs (Lw.addNew rows ((ps.map fun p => (p, l + 1)).take n)) ∧ OrdOk kvs (Lw.addNew rows ((ps.map fun p => (p, l + 1)).take n)) ∧ ∀ (k p q : Nat), ps[k]? = some p → qs[k]? = some q → (Lw.addNew rows ((ps.map fun p => (p, l + 1)).take n))[q]? = some (p, l + 1)) ?_ ?_ ?_ ?_
          · exact ⟨y9, y10, bs, kvs, [], rfl, s4.trans sn, fun b o _ _ _ e => e, sn _ _ hod4, sn _ _ hrl4, hnl5, by simp, hp4.keep (TK.of sn), ho4, fun k p q _ h => by cases h⟩
          · rintro n σ H8 _ ⟨w9, w10, bs, kvs, qs, rfl, g1, g2, _⟩
            exact SqT.of (g2 _ _ nzo nzr nzn (sn _ _ hz1))
          · rintro n y σ H8 hy ⟨w9, w10, bs, kvs, qs, rfl, g1, g2, g3, g4, g5, g6, g7, g8, g9⟩
            have hnl : n < ps.length := by
              have := (List.getElem?_eq_some_iff.mp hy).1
              rw [intsV_len] at this; exact this
            have gp : ps[n]? = some ps[n] := List.getElem?_eq_getElem hnl
            have ey : y = V.int ((ps[n] : Nat)) := Option.some.inj (hy.symm.trans (intsV_get gp))
            generalize hpp : ps[n] = pp at gp ey
            subst ey
            have gz : (ps.map fun p => (p, l + 1))[n]? = some (pp, l + 1) := by rw [List.getElem?_map, gp]; rfl
            have hal : (Lw.addNew rows ((ps.map fun p => (p, l + 1)).take n)).length ≤ rows.length + 6 := by
              refine Nat.le_trans (addNew_le _ _) ?_
              rw [List.length_take, List.length_map]; omega
            have hbl := g7.len
            have hkl := g8.few
            refine ⟨_, rfl, _, rfl, (l : Int), 1, rfl, rfl, by show 2 ≤ sizeLine; decide, fun T nT => ?_⟩
            have sT : Same H8 (upd H8 T (.tup (pkV (pp, l + 1)))) := same_upd nT
            have hT : (upd H8 T (.tup (pkV (pp, l + 1)))) T = some (.tup ((pk (pp, l + 1)).map kV)) := upd_same
            have esame : upd H8 T (.tup [.int (pp : Nat), .int ((l : Int) + 1)]) = upd H8 T (.tup (pkV (pp, l + 1))) := rfl
            rw [esame]
            generalize upd H8 T (.tup (pkV (pp, l + 1))) = H9 at sT hT
            have fin2 : ∀ (H10 : Hp) (bs' : List Addr) (kvs' : List (List Key × V)) (rows' : List (Nat × Nat)), rows' = Lw.addNew rows ((ps.map fun p => (p, l + 1)).take (n + 1)) → Same H H10 → (∀ b o, b ≠ od → b ≠ rl → b ≠ nl → H5 b = some o → H10 b = some o) → H10 od = some (.dT kvs') → H10 rl = some (.lst (bs'.map V.ref)) → H10 nl = some (.lst (intsV qs)) → PairsV H10 bs' rows' → OrdOk kvs' rows' → (pp, l + 1) ∈ rows' → H10 T = some (.tup ((pk (pp, l + 1)).map kV)) →
                (∀ (i : Nat) x, (Lw.addNew rows ((ps.map fun p => (p, l + 1)).take n))[i]? = some x → rows'[i]? = some x) →
                ∃ q : Nat, DGet H10 od (.ref T) (some (.int (q : Nat))) ∧ ∃ (w9 w10 : Option V) (bs : List Addr) (kvs : List (List Key × V)) (qs' : List Nat), [some (.ref a), some (.int (d : Nat)), some (.ref od), some (.ref rl), some (.ref ff), some (.int ((C.length : Int) + 1)), some (.int (v : Nat)), some (.int (l : Nat)), some (.ref nl), some (.int (pp : Nat)), some (V.ref T)] = [some (.ref a), some (.int (d : Nat)), some (.ref od), some (.ref rl), some (.ref ff), some (.int ((C.length : Int) + 1)), some (.int (v : Nat)), some (.int (l : Nat)), some (.ref nl), w9, w10] ∧ Same H (upd H10 nl (.lst (intsV qs ++ [.int (q : Nat)]))) ∧ (∀ b o, b ≠ od → b ≠ rl → b ≠ nl → H5 b = some o → (upd H10 nl (.lst (intsV qs ++ [.int (q : Nat)]))) b = some o) ∧ (upd H10 nl (.lst (intsV qs ++ [.int (q : Nat)]))) od = some (.dT kvs) ∧ (upd H10 nl (.lst (intsV qs ++ [.int (q : Nat)]))) rl = some (.lst (bs.map V.ref)) ∧ (upd H10 nl (.lst (intsV qs ++ [.int (q : Nat)]))) nl = some (.lst (intsV qs')) ∧ qs'.length = min (n + 1) ps.length ∧
                  PairsV (upd H10 nl (.lst (intsV qs ++ [.int (q : Nat)]))) bs (Lw.addNew rows ((ps.map fun p => (p, l + 1)).take (n + 1))) ∧ OrdOk kvs (Lw.addNew rows ((ps.map fun p => (p, l + 1)).take (n + 1))) ∧ ∀ (k p q : Nat), ps[k]? = some p → qs'[k]? = some q → (Lw.addNew rows ((ps.map fun p => (p, l + 1)).take (n + 1)))[q]? = some (p, l + 1) := fun H10 bs' kvs' rows' e0 h1 h2 h3 h4 h5 h6 h7 h8 h9 h10 => by
              subst e0
              have hsome := (h7.mem (pp, l + 1)).mpr h8
              obtain ⟨vq, hvq⟩ := Option.isSome_iff_exists.mp hsome
              obtain ⟨q, rfl, hq⟩ := h7.at' _ _ hvq
              have tk : TK H10 (upd H10 nl (.lst (intsV qs ++ [.int (q : Nat)]))) := sameBut_upd.tk h5 (fun xs z => nomatch z)
              refine ⟨q, by rw [← hvq]; exact DGet.t h3 h9, _, _, bs', kvs', qs ++ [q], rfl, samePut h1 nnl0, fun b o n1 n2 n3 e => by rw [upd_ne n3]; exact h2 b o n1 n2 n3 e, by rw [upd_ne non]; exact h3, by rw [upd_ne nrn]; exact h4, by rw [upd_same, intsV_append]; rfl, ?_, h6.keep tk, h7, fun k p q' hk hq' => ?_⟩
              · rw [List.length_append, List.length_singleton, g6]; omega
              · by_cases hkq : k < qs.length
                · rw [List.getElem?_append_left hkq] at hq'
                  exact h10 _ _ (g9 k p q' hk hq')
                · rw [List.getElem?_append_right (by omega)] at hq'
                  have ek : k = n := by
                    have := (List.getElem?_eq_some_iff.mp hq').1
                    rw [List.length_singleton] at this
                    omega
                  subst ek
                  rw [gp] at hk
                  cases hk
                  rw [show k - qs.length = 0 by omega] at hq'
                  cases hq'
                  exact hq
            have g19 : Same H H9 := g1.trans sT
            have g29 : ∀ b o, b ≠ od → b ≠ rl → b ≠ nl → H5 b = some o → H9 b = some o := fun b o n1 n2 n3 e => sT _ _ (g2 b o n1 n2 n3 e)
            have hnl9 := sT _ _ g5
            have qsl : (intsV qs).length < sizeLine := by rw [intsV_len]; exact small_size (by omega)
            refine ⟨_, rfl, .ref od, rfl, od, _, rfl, DGet.t (sT _ _ g3) hT, _, rfl, ?_⟩
            by_cases hmem : (pp, l + 1) ∈ Lw.addNew rows ((ps.map fun p => (p, l + 1)).take n)
            · rw [(g8.mem _).mpr hmem]
              have erow : Lw.addNew rows ((ps.map fun p => (p, l + 1)).take n) = Lw.addNew rows ((ps.map fun p => (p, l + 1)).take (n + 1)) := by rw [Lw.addNew_take gz, if_pos hmem]
              obtain ⟨q, hq, fq⟩ := fin2 H9 bs kvs _ erow g19 g29 (sT _ _ g3) (sT _ _ g4) hnl9 (g7.keep (TK.of sT)) g8 hmem hT (fun _ _ e => e)
              exact ⟨.ref nl, rfl, .inl ⟨rfl, _, SqL.of hnl9⟩, .ref od, rfl, _, rfl, od, _, rfl, hq, nl, _, _, rfl, rfl, hnl9, qsl, fq⟩
            · have hno : (valV kvs (pk (pp, l + 1))).isSome = false := by
                cases h : (valV kvs (pk (pp, l + 1))).isSome with
                | false => rfl
                | true => exact absurd ((g8.mem _).mp h) hmem
              rw [hno]
              have erow : Lw.addNew rows ((ps.map fun p => (p, l + 1)).take n) ++ [(pp, l + 1)] = Lw.addNew rows ((ps.map fun p => (p, l + 1)).take (n + 1)) := by rw [Lw.addNew_take gz, if_neg hmem]
              refine ⟨.ref rl, rfl, rl, _, rfl, .inl (SqL.of (sT _ _ g4)), .ref od, rfl, _, rfl, od, _, rfl, DPut.t (sT _ _ g3) hT (small_size (by omega)), ?_⟩
              rw [List.length_map, hbl]
              have ho := g8.put (pp, l + 1)
              generalize hkv : putK kvs (pk (pp, l + 1)) (V.int ((Lw.addNew rows ((ps.map fun p => (p, l + 1)).take n)).length : Nat)) = kvs' at ho
              have s10 : Same H (upd H9 od (.dT kvs')) := samePut g19 nod
              have g210 : ∀ b o, b ≠ od → b ≠ rl → b ≠ nl → H5 b = some o → (upd H9 od (.dT kvs')) b = some o := fun b o n1 n2 n3 e => by rw [upd_ne n1]; exact g29 b o n1 n2 n3 e
              have hod10 : (upd H9 od (.dT kvs')) od = some (.dT kvs') := upd_same
              have hrl10 : (upd H9 od (.dT kvs')) rl = some (.lst (bs.map V.ref)) := by rw [upd_ne nor.symm]; exact sT _ _ g4
              have hnl10 : (upd H9 od (.dT kvs')) nl = some (.lst (intsV qs)) := by rw [upd_ne non.symm]; exact hnl9
              have tk10 : TK H9 (upd H9 od (.dT kvs')) := sameBut_upd.tk (sT _ _ g3) (fun xs z => nomatch z)
              have g710 := (g7.keep (TK.of sT)).keep tk10
              have hT10 := tk10 _ _ hT
              generalize upd H9 od (.dT kvs') = H10 at s10 g210 hod10 hrl10 hnl10 g710 hT10
              refine ⟨.ref rl, rfl, .inl ⟨rfl, _, SqL.of hrl10⟩, _, rfl, rl, _, _, rfl, rfl, hrl10, by rw [List.length_map]; exact small_size (by omega), ?_⟩
              have tk11 : TK H10 (upd H10 rl (.lst (bs.map V.ref ++ [V.ref T]))) := sameBut_upd.tk hrl10 (fun xs z => nomatch z)
              have hnl11 : (upd H10 rl (.lst (bs.map V.ref ++ [V.ref T]))) nl = some (.lst (intsV qs)) := by rw [upd_ne nrn.symm]; exact hnl10
              obtain ⟨q, hq, fq⟩ := fin2 (upd H10 rl (.lst (bs.map V.ref ++ [V.ref T]))) (bs ++ [T]) kvs' _ erow (samePut s10 nrl0) (fun b o n1 n2 n3 e => by rw [upd_ne n2]; exact g210 b o n1 n2 n3 e) (by rw [upd_ne nor]; exact hod10) (by rw [upd_same, List.map_append]; rfl) hnl11 ((g710.keep tk11).snoc (tk11 _ _ hT10)) ho (List.mem_append_right _ (List.mem_singleton.mpr rfl)) (tk11 _ _ hT10)
                (fun i x e => by rw [List.getElem?_append_left (List.getElem?_eq_some_iff.mp e).1]; exact e)
              exact ⟨.ref nl, rfl, .inl ⟨rfl, _, SqL.of hnl11⟩, .ref od, rfl, _, rfl, od, _, rfl, hq, nl, _, _, rfl, rfl, hnl11, qsl, fq⟩
          ·
            rintro σ H8 ⟨w9, w10, bs', kvs', qs, rfl, g1, g2, g3, g4, g5, g6, g7, g8, g9⟩
            have etk : (ps.map fun p => (p, l + 1)).take (intsV ps).length = ps.map fun p => (p, l + 1) := by
              rw [intsV_len]; exact List.take_of_length_le (by rw [List.length_map]; exact Nat.le_refl _)
            rw [etk] at g7 g8 g9
            rw [intsV_len, Nat.min_self] at g6
            have nao : av ≠ od := ne_of hi hod4 (fun z => nomatch z)
            have nar : av ≠ rl := ne_of hi hrl4 (fun z => nomatch z)
            have nan : av ≠ nl := ne_of_none hi nnl
            have hi8 := g2 _ _ nao nar nan (sn _ _ hi)
            have hff8 := g2 _ _ nof.symm nrf.symm nfn (sn _ _ hff4)
            refine ⟨.ref ff, rfl, .inl ⟨rfl, _, SqL.of hff8⟩, .ref a, rfl, .int (v : Nat), rfl, a, _, _, _, rfl, rfl, SqT.of (g1 _ _ ha), atI_nat (map_ref_get hav), av, _, 1, .str s1, rfl, rfl, SqT.of hi8, atI_nat (j := 1) rfl, .ref nl, rfl, .inl ⟨nl, _, rfl, SqL.of g5, fun tt ntt => ?_⟩⟩
            have st : Same H8 (upd H8 tt (.tup (intsV qs))) := same_upd ntt
            have htt : (upd H8 tt (.tup (intsV qs))) tt = some (.tup (intsV qs)) := upd_same
            generalize upd H8 tt (.tup (intsV qs)) = H9 at st htt
            refine ⟨by show 3 ≤ sizeLine; decide, fun r nr => ?_⟩
            have sr : Same H9 (upd H9 r (.tup [.str "tuple", .str s1, .ref tt])) := same_upd nr
            have hr9 : NodeV (upd H9 r (.tup [.str "tuple", .str s1, .ref tt])) r (.tup s1 qs) := ⟨tt, upd_same, sr _ _ htt⟩
            generalize upd H9 r (.tup [.str "tuple", .str s1, .ref tt]) = H10 at sr hr9
            have s810 := st.trans sr
            refine ⟨ff, _, _, rfl, rfl, s810 _ _ hff8, ffl, ?_⟩
            have hfr : NodesV H8 fs C := by
              refine ⟨hf4.len, fun i b e => ?_⟩
              refine (hf4.node i b e).keep fun c xs e2 => ?_
              exact g2 _ _ (ne_of e2 hod4 (fun z => nomatch z)) (ne_of e2 hrl4 (fun z => nomatch z)) (ne_of_none e2 nnl) (sn _ _ e2)
            have hadd := Lw.addNew_len (rows := rows) (ps := ps.map fun p => (p, l + 1))
            exact fin r (.tup s1 qs) H10 bs' kvs' _ hr9 (g1.trans s810) (s810 _ _ g3) (s810 _ _ g4) (s810 _ _ hff8) (g7.keep (TK.of s810)) (hfr.keep (TK.of s810)) g8 (I.tup ok.ok hvl eG hl g6 g9) (by omega) _ _ _
      · rw [decide_eq_false (show ¬ V.str (word (Lw.at_ G v)) = V.str "tuple" from fun z => hw (V.str.inj z))]
        refine ⟨.ref a, rfl, .int (v : Nat), rfl, a, _, _, _, rfl, rfl, SqT.of (s4 _ _ ha), atI_nat (map_ref_get hav), av, _, 0, _, rfl, rfl, SqT.of hi, atI_nat (j := 0) (items0 z _), rfl, _, rfl, ?_⟩
        rw [decide_eq_false (show ¬ V.str (word (Lw.at_ G v)) = V.str "tuple" from fun z => hw (V.str.inj z))]
        refine ⟨.ref ff, rfl, .inl ⟨rfl, _, SqL.of hff4⟩, .ref a, rfl, .int (v : Nat), rfl, a, _, _, _, rfl, rfl, SqT.of (s4 _ _ ha), atI_nat (map_ref_get hav), ff, _, _, rfl, rfl, hff4, ffl, ?_⟩
        refine fin av (Lw.at_ G v) H4 bs kvs rows hnode s4 hod4 hrl4 hff4 hp4 hf4 ho4 (I.leaf hvl ?_) hlt _ _ _
        cases hv : Lw.at_ G v with
        | tup s1 ps => rw [hv] at hw; exact absurd rfl hw
        | var n => rfl
        | int n => rfl
        | atom n => rfl
        | name s1 n => rfl
    ·
      have e1 := of_decide_eq_false (Bool.not_eq_true _ ▸ e)
      rw [List.length_map] at e1
      refine ⟨.ref ff, rfl, .inl ⟨ff, _, rfl, SqL.of hff4, fun t nt => ?_⟩⟩
      have st : Same H4 (upd H4 t (.tup (fs.map V.ref))) := same_upd nt
      have cok : Lw.CutOk ("cut" : Str) G d C := ⟨rows, I, by omega⟩
      have gok := CutOk_gok ok h20 hd3 cok
      exact ⟨t, C, rfl, ⟨fs, upd_same, hf4.keep (TK.of st)⟩, gok, fun p L H5 s5 hL hl => q p C L H5 (s4.trans (st.trans s5)) cok gok hl hL⟩
end
end LwW
set_option maxHeartbeats 4000000
namespace LwW
open PySem PySem.Spec PyProof.Rows L2 LwR
def incs (cs : List Int) (ps : List Nat) : List Int := ps.foldl (fun cs p => cs.set p (cs.getD p 0 + 1)) cs
def cnts (L : Gr) (cs : List Int) : List Int := L.foldl (fun cs nd => incs cs nd.parts) cs
def decs (s : List Int × List Nat) (ps : List Nat) : List Int × List Nat := ps.foldl (fun s p => (s.1.set p (s.1.getD p 0 - 1), if s.1.getD p 0 - 1 = 0 then s.2 ++ [p] else s.2)) s
def wait0 (cs : List Int) (n : Nat) : List Nat := (List.range n).filter fun i => cs.getD i 0 == 0
def istep (L : Gr) (s : List Int × List Nat × Nat) : Option (List Int × List Nat × Nat) :=
  match s.2.1.getLast? with
  | none => none
  | some a => some ((decs (s.1, s.2.1.dropLast) (Lw.at_ L a).parts).1, (decs (s.1, s.2.1.dropLast) (Lw.at_ L a).parts).2, s.2.2 + 1)
def icnt (L : Gr) : List Int := cnts L (List.replicate L.length 0)
def IFin (L : Gr) (b : Bool) : Prop := ∃ s, Lw.Reach (istep L) (icnt L, wait0 (icnt L) L.length, 0) s ∧ istep L s = none ∧ b = decide (s.2.2 < L.length)
theorem IFin.unique {L : Gr} {b c : Bool} (h : IFin L b) (g : IFin L c) : b = c := by
  obtain ⟨s, r, e, rfl⟩ := h
  obtain ⟨t, r', e', rfl⟩ := g
  rw [r.final e r' e']
theorem incs_len : ∀ (ps : List Nat) (cs : List Int), (incs cs ps).length = cs.length
  | [], cs => rfl
  | p :: ps, cs => by
    show (incs (cs.set p (cs.getD p 0 + 1)) ps).length = cs.length
    rw [incs_len ps, List.length_set]
theorem cnts_len : ∀ (L : Gr) (cs : List Int), (cnts L cs).length = cs.length
  | [], cs => rfl
  | nd :: L, cs => by
    show (cnts L (incs cs nd.parts)).length = cs.length
    rw [cnts_len L, incs_len]
theorem incs_take {ps : List Nat} {j p : Nat} (h : ps[j]? = some p) (cs : List Int) : incs cs (ps.take (j + 1)) = (incs cs (ps.take j)).set p ((incs cs (ps.take j)).getD p 0 + 1) := by
  have e : ps.take (j + 1) = ps.take j ++ [p] := by rw [List.take_add_one, h]; rfl
  rw [e]
  unfold incs
  rw [List.foldl_append]; rfl
theorem cnts_take {L : Gr} {i : Nat} (h : i < L.length) (cs : List Int) : cnts (L.take (i + 1)) cs = incs (cnts (L.take i) cs) (Lw.at_ L i).parts := by
  rw [take_at h]
  unfold cnts
  rw [List.foldl_append]; rfl
theorem decs_take {ps : List Nat} {j p : Nat} (h : ps[j]? = some p) (s : List Int × List Nat) : decs s (ps.take (j + 1)) = ((decs s (ps.take j)).1.set p ((decs s (ps.take j)).1.getD p 0 - 1), if (decs s (ps.take j)).1.getD p 0 - 1 = 0 then (decs s (ps.take j)).2 ++ [p] else (decs s (ps.take j)).2) := by
  have e : ps.take (j + 1) = ps.take j ++ [p] := by rw [List.take_add_one, h]; rfl
  rw [e]
  unfold decs
  rw [List.foldl_append]; rfl
theorem decs_len : ∀ (ps : List Nat) (s : List Int × List Nat), (decs s ps).1.length = s.1.length
  | [], s => rfl
  | p :: ps, s => by
    show (decs (s.1.set p (s.1.getD p 0 - 1), _) ps).1.length = s.1.length
    rw [decs_len ps, List.length_set]
theorem decs_mem : ∀ (ps : List Nat) (s : List Int × List Nat), ∀ x ∈ (decs s ps).2, x ∈ s.2 ∨ x ∈ ps
  | [], s, x, h => .inl h
  | p :: ps, s, x, h => by
    have h' : x ∈ (decs (s.1.set p (s.1.getD p 0 - 1), if s.1.getD p 0 - 1 = 0 then s.2 ++ [p] else s.2) ps).2 := h
    rcases decs_mem ps _ x h' with z | z
    · have z' : x ∈ (if s.1.getD p 0 - 1 = 0 then s.2 ++ [p] else s.2) := z
      by_cases e : s.1.getD p 0 - 1 = 0
      · rw [if_pos e] at z'
        rcases List.mem_append.mp z' with y | y
        · exact .inl y
        · exact .inr (by rw [List.mem_singleton.mp y]; exact List.mem_cons_self)
      · rw [if_neg e] at z'; exact .inl z'
    · exact .inr (List.mem_cons_of_mem _ z)
def tot (cs : List Int) : Nat := (cs.map Int.toNat).sum
theorem tot_set : ∀ (cs : List Int) (p : Nat) (c : Int), p < cs.length → tot (cs.set p c) + (cs.getD p 0).toNat = tot cs + c.toNat
  | [], p, c, h => by simp at h
  | x :: cs, 0, c, _ => by
    show ((c :: cs).map Int.toNat).sum + x.toNat = ((x :: cs).map Int.toNat).sum + c.toNat
    rw [List.map_cons, List.map_cons, List.sum_cons, List.sum_cons]; omega
  | x :: cs, p + 1, c, h => by
    have ih := tot_set cs p c (by simpa using h)
    show ((x :: cs.set p c).map Int.toNat).sum + (cs.getD p 0).toNat = ((x :: cs).map Int.toNat).sum + c.toNat
    unfold tot at ih
    rw [List.map_cons, List.map_cons, List.sum_cons, List.sum_cons]; omega
theorem decs_tot : ∀ (ps : List Nat) (s : List Int × List Nat), (∀ p ∈ ps, p < s.1.length) → tot (decs s ps).1 + (decs s ps).2.length ≤ tot s.1 + s.2.length
  | [], s, _ => Nat.le_refl _
  | p :: ps, s, h => by
    have hp := h p List.mem_cons_self
    have ih := decs_tot ps (s.1.set p (s.1.getD p 0 - 1), if s.1.getD p 0 - 1 = 0 then s.2 ++ [p] else s.2) (fun q hq => by rw [List.length_set]; exact h q (List.mem_cons_of_mem _ hq))
    have e : decs s (p :: ps) = decs (s.1.set p (s.1.getD p 0 - 1), if s.1.getD p 0 - 1 = 0 then s.2 ++ [p] else s.2) ps := rfl
    rw [e]
    refine Nat.le_trans ih ?_
    have ht := tot_set s.1 p (s.1.getD p 0 - 1) hp
    show tot (s.1.set p (s.1.getD p 0 - 1)) + (if s.1.getD p 0 - 1 = 0 then s.2 ++ [p] else s.2).length ≤ _
    by_cases e0 : s.1.getD p 0 - 1 = 0
    · rw [if_pos e0, List.length_append, List.length_singleton]; omega
    · rw [if_neg e0]; omega
theorem ints_set (cs : List Int) (p : Nat) (c : Int) : (cs.map V.int).set p (.int c) = (cs.set p c).map V.int := by rw [List.map_set]
theorem tot_incs : ∀ (ps : List Nat) (cs : List Int), tot (incs cs ps) ≤ tot cs + ps.length
  | [], cs => Nat.le_refl _
  | p :: ps, cs => by
    have ih := tot_incs ps (cs.set p (cs.getD p 0 + 1))
    have e : incs cs (p :: ps) = incs (cs.set p (cs.getD p 0 + 1)) ps := rfl
    rw [e, List.length_cons]
    refine Nat.le_trans ih ?_
    by_cases hp : p < cs.length
    · have := tot_set cs p (cs.getD p 0 + 1) hp
      omega
    · rw [List.set_eq_of_length_le (by omega)]; omega
theorem tot_cnts : ∀ (L : Gr) (cs : List Int), (∀ nd ∈ L, nd.parts.length ≤ 6) → tot (cnts L cs) ≤ tot cs + 6 * L.length
  | [], cs, _ => Nat.le_refl _
  | nd :: L, cs, h => by
    have ih := tot_cnts L (incs cs nd.parts) (fun x hx => h x (List.mem_cons_of_mem _ hx))
    have h1 := tot_incs nd.parts cs
    have h2 := h nd List.mem_cons_self
    have e : cnts (nd :: L) cs = cnts L (incs cs nd.parts) := rfl
    rw [e, List.length_cons]; omega
theorem tot_zero : ∀ n, tot (List.replicate n 0) = 0
  | 0 => rfl
  | n + 1 => by
    have ih := tot_zero n
    unfold tot at ih ⊢
    rw [List.replicate_succ, List.map_cons, List.sum_cons, ih]; rfl
theorem flat_rep (x : V) : ∀ n, (List.replicate n [x]).flatten = List.replicate n x
  | 0 => rfl
  | n + 1 => by rw [List.replicate_succ, List.flatten_cons, flat_rep x n, List.replicate_succ]; rfl
theorem ixN_nat {p n : Nat} (h : p < n) : ixN n ((p : Nat) : Int) = some p := by
  unfold ixN
  rw [if_pos (by omega), if_pos (by omega)]; rfl
theorem wait0_succ (cs : List Int) (i : Nat) : wait0 cs (i + 1) = wait0 cs i ++ if cs.getD i 0 = 0 then [i] else [] := by
  unfold wait0
  rw [List.range_succ, List.filter_append]
  congr 1
  rw [List.filter_cons]
  by_cases e : cs.getD i 0 = 0
  · rw [if_pos e, if_pos (beq_iff_eq.mpr e)]; rfl
  · rw [if_neg e, if_neg (fun z => e (beq_iff_eq.mp z))]; rfl
theorem wait0_lt {cs : List Int} {n x : Nat} (h : x ∈ wait0 cs n) : x < n := List.mem_range.mp (List.mem_filter.mp h).1
theorem wait0_len (cs : List Int) (n : Nat) : (wait0 cs n).length ≤ n := by
  unfold wait0
  exact Nat.le_trans (List.length_filter_le _ _) (by simp)
abbrev sInf : Stmt := topS 12
theorem scInf : FnScope ["graph", "found", "counts", "node", "part", "done", "at", "waiting"] ["graph"] (defScope sInf) := ⟨rfl, rfl, rfl, by decide +kernel, rfl, by decide +kernel, by decide +kernel⟩
section
variable {P : Program} {w : World} {K : PySem.W.Frag} {mg : Str → Option Value} {base : Heap}
def spInf (K : PySem.W.Frag) : Sp := fun vs H Q _ => ∃ (a : Addr) (G : Gr), vs = [.ref a] ∧ GrV H a G ∧ Gok G ∧ ∀ (b : Bool) (L : Gr) (H' : Hp), Same H H' → Lw.Least G L → IFin L b → Q (.bl b) H'
def InfW (H H1 : Hp) (L : Gr) (a fo cl wl : Addr) (m : Nat) (σ : L2.St) (H4 : Hp) : Prop :=
  ∃ (y3 y4 y6 : Option V) (cs : List Int) (W : List Nat) (dn : Nat), σ = [some (.ref a), some (.ref fo), some (.ref cl), y3, y4, some (.int (dn : Nat)), y6, some (.ref wl)] ∧ m = tot cs + W.length ∧ m ≤ 1000 ∧ Same H H4 ∧ TK H1 H4 ∧ H4 cl = some (.lst (cs.map V.int)) ∧ H4 wl = some (.lst (intsV W)) ∧ cs.length = L.length ∧ (∀ x ∈ W, x < L.length) ∧
    Lw.Reach (istep L) (icnt L, wait0 (icnt L) L.length, 0) (cs, W, dn)
theorem ok_inf {f fL fP : Addr} {fd fdL fdP : FuncData} {k : Nat} (F : Fun K "is_infinite" "is_infinite" sInf f fd) (B : Blt mg)
    (GL : FnOk P w K mg base CX0 (k + 3) fL fdL ["graph"] (spLeast K)) (kL : PySem.W.keepIn K (.ref fL) = true) (bL : Binds K fdL ["graph"] []) (gL : mg "least" = some (.ref fL))
    (GP : FnOk P w K mg base CX0 (k + 1) fP fdP ["node"] (spParts K)) (kP : PySem.W.keepIn K (.ref fP) = true) (bP : Binds K fdP ["node"] []) (gP : mg "parts_of" = some (.ref fP)) : FnOk P w K mg base CX0 (k + 4) f fd ["graph"] (spInf K) := by
  refine F.ok scInf (fun vs H Q E h => ?_) (fun cdv A outer s H vs Q E hr h => ?_)
  · obtain ⟨a, G, rfl, _⟩ := h
    rfl
  · obtain ⟨a, G, rfl, hG, ok, q⟩ := h
    have hr1 : Room (k + 1) (A.deeper (envOfC "is_infinite" (defScope sInf) s.heap.objs.size f cdv)) := hr.mono (by omega)
    refine ⟨_, pss_cons (ps_set (i := 1) scInf.nd rfl (.inl rfl) (pe_call GL hr (by rfl) gL kL bL .nil pass0 (pa_cons (pv 0) pa_nil)))
      (pss_cons (ps_set (i := 2) scInf.nd rfl (.inr rfl) (pe_op op_rep (pe_lst (pa_cons pe_int pa_nil)) (pe_callB call_len_seq (by rfl) B.len PySem.boot_len (pa_cons (pv 1) pa_nil))))
      (pss_cons (ps_for PassesOwn.never rfl (pi_tup (pv 1)) (pg_name (i := 3) scInf.nd rfl (.inl rfl))
        (pss_one (ps_for PassesOwn.never rfl (pi_tup (pe_call GP hr1 (by rfl) gP kP bP .nil pass0 (pa_cons (pv 3) pa_nil))) (pg_name (i := 4) scInf.nd rfl (.inl rfl))
          (pss_one (ps_augS (pv 2) (pv 4) pget_list pe_int ip_add set_list)))))
      (pss_cons (ps_set (i := 5) scInf.nd rfl (.inl rfl) pe_int)
      (pss_cons (ps_setLc (i := 7) (own := [("at", 6)]) (g := gName 6) rfl scInf.nd rfl rfl (sw_true rfl rfl rfl (by decide +kernel)) (pi_range1 (by rfl) B.range (pa_cons (pe_callB call_len_seq (by rfl) B.len PySem.boot_len (pa_cons (pv 1) pa_nil)) pa_nil))
          (blkOk_by (N := ["graph", "found", "counts", "node", "part", "done", "at", "waiting"]) (sc := defScope sInf) (by decide +kernel)) (fun _ _ _ _ _ => pg_name (i := 6) scInf.nd rfl (Or.inl rfl))
          (fun _ _ _ _ _ => pts_one (pt_cmpR op_eq (pe_ix (r := rIxL K) ix_list (pv 2) (pv 6) (fun _ _ => rfl)) pe_int (nomark _))) (fun _ _ _ _ _ => pv 6))
      (pss_cons (ps_while PassesOwn.never (pt_truth (pv 7) (by intro _; rfl))
        (pss_cons (ps_set (i := 6) scInf.nd rfl (.inl rfl) (pe_bm0 PySem.F.plainAttrs_list PySem.F.slot_list_pop PySem.F.type_list_pop mt_pop (pv 7)))
        (pss_cons (ps_aug (i := 5) scInf.nd rfl (.inl rfl) pe_int ip_add)
        (pss_one (ps_for PassesOwn.never rfl (pi_tup (pe_call GP hr1 (by rfl) gP kP bP .nil pass0 (pa_cons (pe_ix ix_tup (pv 1) (pv 6) (fun _ _ => rfl)) pa_nil))) (pg_name (i := 4) scInf.nd rfl (.inl rfl))
          (pss_cons (ps_augS (pv 2) (pv 4) pget_list pe_int ip_sub set_list)
          (pss_one (ps_if (pt_cmpR op_eq (pe_ix ix_list (pv 2) (pv 4) (fun _ _ => rfl)) pe_int (nomark _))
            (pss_one (ps_expr (pe_bm PySem.F.plainAttrs_list PySem.F.slot_list_append PySem.F.type_list_append mt_append (pv 7) (pa_cons (pv 4) pa_nil)))) pss_nil))))))))
      (pss_one (ps_ret (pe_cmpR op_lt (pv 5) (pe_callB call_len_seq (by rfl) B.len PySem.boot_len (pa_cons (pv 1) pa_nil)) (nomark _))))))))), ?_⟩
    refine ⟨.ref a, rfl, a, G, rfl, hG, ok, fun fo L H1 s1 hL hl => ?_⟩
    obtain ⟨ls, hfo, hls⟩ := hL
    have okL := least_ok ok hl
    have few := okL.few
    have hll := hls.len
    have hmap : (ls.map V.ref).length = L.length := by rw [List.length_map, hll]
    refine ⟨by show 1 ≤ sizeLine; decide, fun z nz => ?_⟩
    have sz : Same H1 (upd H1 z (.lst [.int 0])) := same_upd nz
    have hz : (upd H1 z (.lst [.int 0])) z = some (.lst [.int 0]) := upd_same
    generalize upd H1 z (.lst [.int 0]) = H2 at sz hz
    refine ⟨.ref fo, rfl, fo, _, rfl, .inr (SqT.of (sz _ _ hfo)), z, _, _, rfl, rfl, hz, by rw [hmap]; omega, by rw [hmap]; omega, by rw [hmap, Int.toNat_natCast, List.length_singleton, Nat.one_mul]; exact small_sizeL (by omega), fun cl ncl => ?_⟩
    have erep : (List.replicate (((ls.map V.ref).length : Int)).toNat [V.int 0]).flatten = (List.replicate L.length (0 : Int)).map V.int := by
      rw [hmap, Int.toNat_natCast, flat_rep, List.map_replicate]
    rw [erep]
    have ncl1 : H1 cl = none := sz.free ncl
    have ncl0 : H cl = none := s1.free ncl1
    have s3 : Same H (upd H2 cl (.lst ((List.replicate L.length (0 : Int)).map V.int))) := samePut (s1.trans sz) ncl0
    have t3 : TK H1 (upd H2 cl (.lst ((List.replicate L.length (0 : Int)).map V.int))) := (TK.of sz).trans (TK.of (same_upd ncl))
    have hcl3 : (upd H2 cl (.lst ((List.replicate L.length (0 : Int)).map V.int))) cl = some (.lst ((List.replicate L.length (0 : Int)).map V.int)) := upd_same
    generalize upd H2 cl (.lst ((List.replicate L.length (0 : Int)).map V.int)) = H3 at s3 t3 hcl3
    refine ⟨.ref fo, rfl, fo, rfl, ⟨_, SqT.of (t3 _ _ hfo)⟩, ?_⟩
    refine for_tup (K := K) (a := fo) (xs := ls.map V.ref) (fun i σ H4 => ∃ (y3 y4 : Option V), σ = [some (.ref a), some (.ref fo), some (.ref cl), y3, y4, none, none, none] ∧ Same H H4 ∧ TK H1 H4 ∧ H4 cl = some (.lst ((cnts (L.take i) (List.replicate L.length 0)).map V.int))) ?_ ?_ ?_ ?_
    · exact ⟨none, none, rfl, s3, t3, hcl3⟩
    · rintro i σ H4 _ ⟨y3, y4, rfl, _, h2, _⟩
      exact SqT.of (h2 _ _ hfo)
    · rintro i x σ H4 hx ⟨y3, y4, rfl, h1, h2, h3⟩
      obtain ⟨b, hb, rfl⟩ : ∃ b, ls[i]? = some b ∧ x = V.ref b := by
        rw [List.getElem?_map] at hx
        cases e : ls[i]? with
        | none => rw [e] at hx; cases hx
        | some b => rw [e] at hx; exact ⟨b, rfl, (Option.some.inj hx).symm⟩
      have hi : i < L.length := by rw [← hll]; exact (List.getElem?_eq_some_iff.mp hb).1
      refine ⟨.ref b, rfl, b, Lw.at_ L i, rfl, (hls.node i b hb).keep h2, fun p H5 s45 hp => ?_⟩
      refine ⟨p, rfl, ⟨_, SqT.of hp⟩, ?_⟩
      have clen : (cnts (L.take i) (List.replicate L.length 0)).length = L.length := by rw [cnts_len, List.length_replicate]
      refine for_tup (K := K) (a := p) (xs := intsV (Lw.at_ L i).parts) (fun j σ H6 => ∃ (y4 : Option V), σ = [some (.ref a), some (.ref fo), some (.ref cl), some (.ref b), y4, none, none, none] ∧ Same H H6 ∧ SameBut cl H5 H6 ∧ H6 cl = some (.lst ((incs (cnts (L.take i) (List.replicate L.length 0)) ((Lw.at_ L i).parts.take j)).map V.int))) ?_ ?_ ?_ ?_
      · exact ⟨y4, rfl, h1.trans s45, SameBut.refl _ _, s45 _ _ h3⟩
      · rintro j σ H6 _ ⟨y4, rfl, _, g2, _⟩
        exact SqT.of (g2 _ _ (ne_of hp (s45 _ _ h3) (fun z => nomatch z)) hp)
      · rintro j x σ H6 hx ⟨y4, rfl, g1, g2, g3⟩
        have hjl : j < (Lw.at_ L i).parts.length := by
          have := (List.getElem?_eq_some_iff.mp hx).1
          rw [intsV_len] at this; exact this
        have gp : (Lw.at_ L i).parts[j]? = some (Lw.at_ L i).parts[j] := List.getElem?_eq_getElem hjl
        have ex : x = V.int (((Lw.at_ L i).parts[j] : Nat)) := Option.some.inj (hx.symm.trans (intsV_get gp))
        have hpl : (Lw.at_ L i).parts[j] < L.length := okL.ok.parts i hi _ (List.getElem_mem hjl)
        generalize (Lw.at_ L i).parts[j] = pp at gp ex hpl
        subst ex
        have il : (incs (cnts (L.take i) (List.replicate L.length 0)) ((Lw.at_ L i).parts.take j)).length = L.length := by rw [incs_len, clen]
        rw [incs_take gp]
        generalize incs (cnts (L.take i) (List.replicate L.length 0)) ((Lw.at_ L i).parts.take j) = cs at g3 il
        refine ⟨_, rfl, _, rfl, cl, _, _, _, rfl, rfl, SqL.of g3, atI_nat (ints_get (by omega)), _, 1, rfl, rfl, cl, _, _, pp, rfl, rfl, g3, by rw [List.length_map]; exact ixN_nat (by omega), _, rfl, samePut g1 ncl0, g2.trans sameBut_upd, ?_⟩
        rw [upd_same, ints_set]
      · rintro σ H6 ⟨y4, rfl, g1, g2, g3⟩
        rw [intsV_len, List.take_length, ← cnts_take hi] at g3
        refine ⟨_, _, rfl, g1, h2.trans ((TK.of s45).trans (g2.tk (s45 _ _ h3) (fun xs z => nomatch z))), g3⟩
    · rintro σ H4 ⟨y3, y4, rfl, s4, t4, h4⟩
      have ecnt : cnts (L.take (ls.map V.ref).length) (List.replicate L.length 0) = icnt L := by
        rw [hmap, List.take_length]; rfl
      rw [ecnt] at h4
      have il : (icnt L).length = L.length := by unfold icnt; rw [cnts_len, List.length_replicate]
      refine ⟨.ref fo, rfl, fo, _, rfl, .inr (SqT.of (t4 _ _ hfo)), _, rfl, by rw [hmap]; omega, by rw [hmap]; omega, fun wl nwl => ?_⟩
      have nwl0 : H wl = none := s4.free nwl
      have ncw : cl ≠ wl := ne_of_none h4 nwl
      refine lc_range (lo := 0) (n := (((ls.map V.ref).length : Nat) : Int).toNat) (fun i H5 => SameBut wl H4 H5 ∧ H5 wl = some (.lst (intsV (wait0 (icnt L) i)))) ?_ ?_ ?_
      · exact ⟨SameBut.of (same_upd nwl), upd_same⟩
      · rintro i H5 hi ⟨g1, g2⟩
        rw [hmap, Int.toNat_natCast] at hi
        rw [Int.zero_add]
        have hcl5 := g1 _ _ ncw h4
        refine ⟨rfl, .ref cl, rfl, .int (i : Nat), rfl, cl, _, _, _, rfl, rfl, SqL.of hcl5, atI_nat (ints_get (by omega)), rfl, _, rfl, ite2 (fun e => ?_) (fun e => ?_)⟩
        · have e0 : (icnt L).getD i 0 = 0 := V.int.inj (of_decide_eq_true e)
          refine ⟨.int (i : Nat), rfl, _, g2, ?_, g1.trans sameBut_upd, ?_⟩
          · rw [intsV_len]; have := wait0_len (icnt L) i; exact small_size (by omega)
          · rw [upd_same, wait0_succ, if_pos e0, intsV_append]; rfl
        · have e0 : ¬ (icnt L).getD i 0 = 0 := fun z => e (decide_eq_true (by rw [z]))
          refine ⟨g1, ?_⟩
          rw [wait0_succ, if_neg e0, List.append_nil]; exact g2
      · rintro H5 ⟨g1, g2⟩
        rw [hmap, Int.toNat_natCast] at g2
        have htot : tot (icnt L) ≤ 600 := by
          have h1 := tot_cnts L (List.replicate L.length 0) (fun nd hnd => by
            obtain ⟨i, hi, e⟩ := List.getElem_of_mem hnd
            have := (okL.nodes i hi).parts
            rw [Lw.at_get (List.getElem?_eq_getElem hi), e] at this; exact this)
          rw [tot_zero] at h1
          unfold icnt; omega
        have hw0 := wait0_len (icnt L) L.length
        refine ⟨InfW H H1 L a fo cl wl, ⟨_, y3, y4, none, icnt L, wait0 (icnt L) L.length, 0, rfl, rfl, by omega, fun b o e => g1 b o (ne_of_none e nwl0) (s4 b o e), t4.trans (fun c xs e => g1 c _ (ne_of_none e nwl) e), g1 _ _ ncw h4, g2, il, fun x hx => wait0_lt hx, .refl _⟩, fun m σ H6 hW => ?_⟩
        obtain ⟨y3, y4, y6, cs, W, dn, rfl, rfl, hm, s6, t6, hcl6, hwl6, hcs, hWl, hR⟩ := hW
        refine ⟨.ref wl, rfl, _, .inl ⟨_, SqL.of hwl6, rfl⟩, ite2 (fun e => ?_) (fun e => ?_)⟩
        ·
          obtain ⟨W', x, rfl⟩ : ∃ W' x, W = W' ++ [x] := by
            rcases List.eq_nil_or_concat W with h | ⟨W', x, h⟩
            · subst h; exact absurd e (by simp [intsV])
            · exact ⟨W', x, by rw [h, List.concat_eq_append]⟩
          have hx : x < L.length := hWl x (by simp)
          have eW : intsV (W' ++ [x]) = intsV W' ++ [V.int (x : Nat)] := by rw [intsV_append]; rfl
          rw [eW] at hwl6
          refine ⟨_, fun σ' H' h => h, .ref wl, rfl, .inl ⟨rfl, _, SqL.of hwl6⟩, wl, _, .int (x : Nat), rfl, rfl, hwl6, ?_, ?_⟩
          · rw [List.length_append]; simp
          rw [List.dropLast_concat]
          have s7 : Same H (upd H6 wl (.lst (intsV W'))) := samePut s6 nwl0
          have t7 : TK H1 (upd H6 wl (.lst (intsV W'))) := t6.trans (sameBut_upd.tk hwl6 (fun xs z => nomatch z))
          have hcl7 : (upd H6 wl (.lst (intsV W'))) cl = some (.lst (cs.map V.int)) := by rw [upd_ne ncw]; exact hcl6
          have hwl7 : (upd H6 wl (.lst (intsV W'))) wl = some (.lst (intsV W')) := upd_same
          generalize upd H6 wl (.lst (intsV W')) = H7 at s7 t7 hcl7 hwl7
          refine ⟨_, rfl, _, 1, rfl, rfl, ?_⟩
          obtain ⟨b, hb⟩ : ∃ b, ls[x]? = some b := ⟨_, List.getElem?_eq_getElem (by omega)⟩
          refine ⟨.ref fo, rfl, .int (x : Nat), rfl, fo, _, _, _, rfl, rfl, SqT.of (t7 _ _ hfo), atI_nat (map_ref_get hb), b, Lw.at_ L x, rfl, (hls.node x b hb).keep t7, fun p H8 s78 hp => ?_⟩
          refine ⟨p, rfl, ⟨_, SqT.of hp⟩, ?_⟩
          have htot' : ∀ j, tot (decs (cs, W') ((Lw.at_ L x).parts.take j)).1 + (decs (cs, W') ((Lw.at_ L x).parts.take j)).2.length ≤ tot cs + W'.length := fun j =>
            decs_tot _ (cs, W') (fun q hq => by show q < cs.length; rw [hcs]; exact okL.ok.parts x hx q (List.mem_of_mem_take hq))
          rw [List.length_append, List.length_singleton] at hm
          refine for_tup (K := K) (a := p) (xs := intsV (Lw.at_ L x).parts) (fun j σ H9 => ∃ (y4 : Option V), σ = [some (.ref a), some (.ref fo), some (.ref cl), y3, y4, some (.int ((dn : Int) + 1)), some (.int (x : Nat)), some (.ref wl)] ∧ Same H H9 ∧ TK H8 H9 ∧ H9 cl = some (.lst ((decs (cs, W') ((Lw.at_ L x).parts.take j)).1.map V.int)) ∧ H9 wl = some (.lst (intsV (decs (cs, W') ((Lw.at_ L x).parts.take j)).2))) ?_ ?_ ?_ ?_
          · exact ⟨y4, rfl, s7.trans s78, TK.refl _, s78 _ _ hcl7, s78 _ _ hwl7⟩
          · rintro j σ H9 _ ⟨y4, rfl, _, k2, _⟩
            exact SqT.of (k2 _ _ hp)
          · rintro j y σ H9 hy ⟨y4, rfl, k1, k2, k3, k4⟩
            have hjl : j < (Lw.at_ L x).parts.length := by
              have := (List.getElem?_eq_some_iff.mp hy).1
              rw [intsV_len] at this; exact this
            have gp : (Lw.at_ L x).parts[j]? = some (Lw.at_ L x).parts[j] := List.getElem?_eq_getElem hjl
            have ey : y = V.int (((Lw.at_ L x).parts[j] : Nat)) := Option.some.inj (hy.symm.trans (intsV_get gp))
            have hpl : (Lw.at_ L x).parts[j] < L.length := okL.ok.parts x hx _ (List.getElem_mem hjl)
            generalize (Lw.at_ L x).parts[j] = pp at gp ey hpl
            subst ey
            have hd : (decs (cs, W') ((Lw.at_ L x).parts.take j)).1.length = L.length := by rw [decs_len]; exact hcs
            have hb2 := htot' j
            rw [decs_take gp]
            generalize decs (cs, W') ((Lw.at_ L x).parts.take j) = dd at k3 k4 hd hb2
            obtain ⟨d1, d2⟩ := dd
            have k3 : H9 cl = some (.lst (d1.map V.int)) := k3
            have k4 : H9 wl = some (.lst (intsV d2)) := k4
            have hd : d1.length = L.length := hd
            have hb2 : tot d1 + d2.length ≤ tot cs + W'.length := hb2
            refine ⟨_, rfl, _, rfl, cl, _, _, _, rfl, rfl, SqL.of k3, atI_nat (ints_get (by omega)), _, 1, rfl, rfl, cl, _, _, pp, rfl, rfl, k3, by rw [List.length_map]; exact ixN_nat (by omega), ?_⟩
            rw [ints_set]
            have s10 : Same H (upd H9 cl (.lst ((d1.set pp (d1.getD pp 0 - 1)).map V.int))) := samePut k1 ncl0
            have t10 : TK H8 (upd H9 cl (.lst ((d1.set pp (d1.getD pp 0 - 1)).map V.int))) := k2.trans (sameBut_upd.tk k3 (fun xs z => nomatch z))
            have hcl10 : (upd H9 cl (.lst ((d1.set pp (d1.getD pp 0 - 1)).map V.int))) cl = some (.lst ((d1.set pp (d1.getD pp 0 - 1)).map V.int)) := upd_same
            have hwl10 : (upd H9 cl (.lst ((d1.set pp (d1.getD pp 0 - 1)).map V.int))) wl = some (.lst (intsV d2)) := by rw [upd_ne ncw.symm]; exact k4
            generalize upd H9 cl (.lst ((d1.set pp (d1.getD pp 0 - 1)).map V.int)) = H10 at s10 t10 hcl10 hwl10
            have eget : (d1.set pp (d1.getD pp 0 - 1)).getD pp 0 = d1.getD pp 0 - 1 := by
              rw [List.getD_eq_getElem?_getD, List.getElem?_set_self (by omega)]; rfl
            refine ⟨.ref cl, rfl, _, rfl, cl, _, _, _, rfl, rfl, SqL.of hcl10, atI_nat (ints_get (by rw [List.length_set]; omega)), rfl, _, rfl, ?_⟩
            rw [eget]
            refine ite2 (fun e => ?_) (fun e => ?_)
            · have e0 : d1.getD pp 0 - 1 = 0 := V.int.inj (of_decide_eq_true e)
              refine ⟨.ref wl, rfl, .inl ⟨rfl, _, SqL.of hwl10⟩, _, rfl, wl, _, _, rfl, rfl, hwl10, by rw [intsV_len]; exact small_size (by omega), _, rfl, samePut s10 nwl0, t10.trans (sameBut_upd.tk hwl10 (fun xs z => nomatch z)), by rw [upd_ne ncw]; exact hcl10, ?_⟩
              rw [upd_same]
              show some (HO.lst _) = some (HO.lst (intsV (if d1.getD pp 0 - 1 = 0 then d2 ++ [pp] else d2)))
              rw [if_pos e0, intsV_append]; rfl
            · have e0 : ¬ d1.getD pp 0 - 1 = 0 := fun z => e (decide_eq_true (by rw [z]))
              refine ⟨_, rfl, s10, t10, hcl10, ?_⟩
              show _ = some (HO.lst (intsV (if d1.getD pp 0 - 1 = 0 then d2 ++ [pp] else d2)))
              rw [if_neg e0]; exact hwl10
          · rintro σ H9 ⟨y4, rfl, k1, k2, k3, k4⟩
            rw [intsV_len, List.take_length] at k3 k4
            have hb3 := htot' (Lw.at_ L x).parts.length
            rw [List.take_length] at hb3
            have estep : istep L (cs, W' ++ [x], dn) = some ((decs (cs, W') (Lw.at_ L x).parts).1, (decs (cs, W') (Lw.at_ L x).parts).2, dn + 1) := by
              unfold istep
              simp
            refine ⟨_, ?_, _, _, _, (decs (cs, W') (Lw.at_ L x).parts).1, (decs (cs, W') (Lw.at_ L x).parts).2, dn + 1, rfl, rfl, by omega, k1, t7.trans ((TK.of s78).trans k2), k3, k4, by rw [decs_len]; exact hcs, fun y hy => ?_, hR.snoc estep⟩
            · rw [List.length_append, List.length_singleton]; omega
            · rcases decs_mem _ _ y hy with z | z
              · exact hWl y (List.mem_append_left _ z)
              · exact okL.ok.parts x hx y z
        ·
          have eW : W = [] := by
            cases W with
            | nil => rfl
            | cons x W' => exact absurd rfl e
          subst eW
          refine ⟨_, rfl, .ref fo, rfl, fo, _, rfl, .inr (SqT.of (t6 _ _ hfo)), _, _, rfl, rfl, q _ L H6 s6 hl ⟨_, hR, rfl, ?_⟩⟩
          rw [hmap]
          show decide ((dn : Int) < (L.length : Int)) = decide (dn < L.length)
          by_cases h : dn < L.length
          · rw [decide_eq_true h, decide_eq_true (by omega)]
          · rw [decide_eq_false h, decide_eq_false (by omega)]
end
end LwW
set_option maxHeartbeats 4000000
namespace LwW
open PySem PySem.Spec PyProof.Rows L2 LwR
inductive It
  | node (n : Nat)
  | sp
  | fin (n : Nat)
structure PSt where
  rows : List Str
  size : Nat
  kvs : List (Key × V)
  W : List It
def nk (n : Nat) : Key := Sum.inl ((n : Nat) : Int)
def nstr (n : Int) : Str := Str.ofString (toString n)
def pput (s : PSt) (t : Str) : Option PSt := if 20000 < s.size + t.length then none else some { s with rows := s.rows ++ [t], size := s.size + t.length }
def place (kvs : List (Key × V)) (n : Nat) : Nat := match valV kvs (nk n) with
  | some (.int p) => p.toNat
  | _ => 0
def leafT : Nd → Str
  | .int n => nstr n
  | .atom s => s
  | .var n => ("_" : Str) ++ nstr n
  | .name s n => (("<" : Str) ++ s ++ (" " : Str) ++ nstr n) ++ (">" : Str)
  | .tup _ _ => ""
def preferOf (s : PSt) (n : Nat) : PSt :=
  if Txt.startswith (s.rows.getD (place s.kvs n) "") (nstr n ++ ("=" : Str)) = true then s
  else { s with size := s.size + ((nstr n).length + 1), rows := s.rows.set (place s.kvs n) (nstr n ++ ("=" : Str) ++ s.rows.getD (place s.kvs n) "") }
def prefer (s : PSt) (n : Nat) : Option PSt := (pput s (("@" : Str) ++ nstr n)).map fun s1 => preferOf s1 n
def kidsN (ps : List Nat) : Nat → List It
  | 0 => []
  | i + 1 => kidsN ps i ++ (.node (ps.getD (ps.length - 1 - i) 0) :: if 0 < ps.length - 1 - i then [.sp] else [])
def nameOf : Nd → Str
  | .tup s _ => s
  | _ => ""
def pbegin (L : Gr) (s : PSt) (n : Nat) : Option PSt :=
  (pput { s with kvs := putK s.kvs (nk n) (.int ((s.rows.length : Nat) : Int)) } (nameOf (Lw.at_ L n) ++ ("(" : Str))).map fun s1 => { s1 with W := s1.W ++ .fin n :: kidsN (Lw.at_ L n).parts (Lw.at_ L n).parts.length }
def pact (L : Gr) (s : PSt) : It → Option PSt
  | .sp => pput s (" " : Str)
  | .fin n => (pput s (")" : Str)).map fun s1 => { s1 with kvs := dropK s1.kvs (nk n) }
  | .node n => if (valV s.kvs (nk n)).isSome = true then prefer s n else if word (Lw.at_ L n) ≠ "tuple" then pput s (leafT (Lw.at_ L n)) else pbegin L s n
def pstep (L : Gr) (s : PSt) : Option PSt := match s.W.getLast? with
  | none => none
  | some x => pact L { s with W := s.W.dropLast } x
def p0 : PSt := ⟨[], 0, [], [.node 0]⟩
def pres (s : PSt) : Option Str := match s.W with
  | [] => if 20000 < (Txt.join ("" : Str) s.rows).length then none else some (Txt.join ("" : Str) s.rows)
  | _ :: _ => none
def PFinal (L : Gr) (r : Option Str) : Prop := ∃ s, Lw.Reach (pstep L) p0 s ∧ pstep L s = none ∧ r = pres s
theorem PFinal.unique {L : Gr} {b c : Option Str} (h : PFinal L b) (g : PFinal L c) : b = c := by
  obtain ⟨s, r, e, rfl⟩ := h
  obtain ⟨t, r', e', rfl⟩ := g
  rw [r.final e r' e']
def fins : List It → List Nat
  | [] => []
  | .fin n :: r => n :: fins r
  | _ :: r => fins r
theorem fins_app : ∀ a b, fins (a ++ b) = fins a ++ fins b
  | [], b => rfl
  | .fin n :: r, b => by show n :: fins (r ++ b) = n :: (fins r ++ fins b); rw [fins_app r b]
  | .sp :: r, b => fins_app r b
  | .node n :: r, b => fins_app r b
theorem fins_kids (ps : List Nat) : ∀ i, fins (kidsN ps i) = []
  | 0 => rfl
  | i + 1 => by
    show fins (kidsN ps i ++ _) = []
    rw [fins_app, fins_kids ps i]
    by_cases h : 0 < ps.length - 1 - i
    · rw [if_pos h]; rfl
    · rw [if_neg h]; rfl
theorem kids_len (ps : List Nat) : ∀ i, (kidsN ps i).length ≤ 2 * i
  | 0 => Nat.le_refl _
  | i + 1 => by
    show (kidsN ps i ++ _).length ≤ _
    have := kids_len ps i
    rw [List.length_append]
    by_cases h : 0 < ps.length - 1 - i
    · rw [if_pos h]; simp only [List.length_cons, List.length_nil]; omega
    · rw [if_neg h]; simp only [List.length_cons, List.length_nil]; omega
def isNode (n : Nat) : It → Prop
  | .node m => m = n
  | _ => False
theorem kids_node {ps : List Nat} {n : Nat} : ∀ i, i ≤ ps.length → .node n ∈ kidsN ps i → n ∈ ps
  | 0, _, h => by cases h
  | i + 1, hi, h => by
    have h' : It.node n ∈ kidsN ps i ++ (.node (ps.getD (ps.length - 1 - i) 0) :: if 0 < ps.length - 1 - i then [.sp] else []) := h
    rcases List.mem_append.mp h' with z | z
    · exact kids_node i (by omega) z
    · rcases List.mem_cons.mp z with y | y
      · have hl : ps.length - 1 - i < ps.length := by omega
        have e : n = ps.getD (ps.length - 1 - i) 0 := It.node.inj y
        rw [e, List.getD_eq_getElem?_getD, List.getElem?_eq_getElem hl]
        exact List.getElem_mem hl
      · by_cases c : 0 < ps.length - 1 - i
        · rw [if_pos c] at y
          cases List.mem_singleton.mp y
        · rw [if_neg c] at y; cases y
theorem valV_drop (k j : Key) : ∀ kvs : List (Key × V), valV (dropK kvs k) j = if j = k then none else valV kvs j
  | [] => by by_cases h : j = k <;> simp [h, dropK, valV]
  | p :: r => by
    have ih := valV_drop k j r
    by_cases h : p.1 = k
    · rw [dropK_pos h, ih]
      by_cases e : j = k
      · rw [if_pos e, if_pos e]
      · rw [if_neg e, if_neg e, valV_neg (fun z => e (z.symm.trans h))]
    · rw [dropK_neg h]
      by_cases z : p.1 = j
      · rw [valV_pos z, valV_pos z, if_neg (fun e => h (z.trans e))]
      · rw [valV_neg z, valV_neg z, ih]
def total (rows : List Str) : Nat := (rows.map (·.length)).sum
theorem total_snoc (rows : List Str) (t : Str) : total (rows ++ [t]) = total rows + t.length := by unfold total; simp
theorem total_set : ∀ (rows : List Str) (p : Nat) (a : Str), p < rows.length → total (rows.set p (a ++ rows.getD p "")) = total rows + a.length
  | [], p, a, h => by simp at h
  | x :: r, 0, a, _ => by
    show (((a ++ x) :: r).map (·.length)).sum = ((x :: r).map (·.length)).sum + a.length
    rw [List.map_cons, List.map_cons, List.sum_cons, List.sum_cons, Str.length_append]; omega
  | x :: r, p + 1, a, h => by
    have ih := total_set r p a (by simpa using h)
    unfold total at ih
    show ((x :: r.set p (a ++ r.getD p "")).map (·.length)).sum = ((x :: r).map (·.length)).sum + a.length
    rw [List.map_cons, List.map_cons, List.sum_cons, List.sum_cons, ih]; omega
theorem nstr_len {n : Int} (h : IntOk n) : (nstr n).length ≤ 11 := by
  unfold nstr
  rw [PySem.ofString_length]
  exact int_text_length_le10 (k := 10) (by decide) (by
    unfold IntOk at h
    have e : (10 : Int) ^ 9 = 1000000000 := by decide
    have e2 : (10 : Nat) ^ 10 = 10000000000 := by decide
    rw [e] at h; rw [e2]; omega)
def KvOk (s : PSt) : Prop := ∀ (k : Key) (v : V), valV s.kvs k = some v → ∃ p : Nat, v = .int (p : Nat) ∧ p < s.rows.length
structure PInv (L : Gr) (m : Nat) (s : PSt) : Prop where
  tot : total s.rows = s.size
  small : s.size ≤ 20100
  kv : KvOk s
  nd : (fins s.W).Nodup
  open_ : ∀ n ∈ fins s.W, (valV s.kvs (nk n)).isSome = true
  lt : ∀ n, It.node n ∈ s.W → n < L.length
  meas : 14 * (20200 - s.size) + s.W.length = m
  rlen : s.rows.length + m ≤ 300000
  klen : s.kvs.length + m ≤ 300000
theorem p0_inv {L : Gr} (h : 0 < L.length) : PInv L 282801 p0 := ⟨rfl, by decide, (fun k v e => by cases e), List.nodup_nil, (fun n z => by cases z), (fun n z => by
  cases List.mem_singleton.mp z; exact h), rfl, by decide, by decide⟩
theorem place_eq {s : PSt} (h : KvOk s) {n : Nat} {v : V} (e : valV s.kvs (nk n) = some v) : v = .int ((place s.kvs n : Nat) : Int) ∧ place s.kvs n < s.rows.length := by
  obtain ⟨p, rfl, hp⟩ := h _ _ e
  have : place s.kvs n = p := by unfold place; rw [e]; exact Int.toNat_natCast p
  rw [this]
  exact ⟨rfl, hp⟩
theorem PInv.popped {L : Gr} {m : Nat} {s : PSt} {x : It} (I : PInv L m s) (h : s.W.getLast? = some x) : s.W = s.W.dropLast ++ [x] ∧ fins s.W = fins s.W.dropLast ++ fins [x] := by
  have e : s.W = s.W.dropLast ++ [x] := by
    obtain ⟨ys, e⟩ := List.getLast?_eq_some_iff.mp h
    rw [e, List.dropLast_concat]
  exact ⟨e, by rw [← fins_app, ← e]⟩
theorem pput_some {s s1 : PSt} {t : Str} (h : pput s t = some s1) : s.size + t.length ≤ 20000 ∧ s1 = { s with rows := s.rows ++ [t], size := s.size + t.length } := by
  unfold pput at h
  by_cases c : 20000 < s.size + t.length
  · rw [if_pos c] at h; cases h
  · rw [if_neg c] at h
    exact ⟨by omega, (Option.some.inj h).symm⟩
theorem PInv.put {L : Gr} {m : Nat} {s s1 : PSt} {x : It} {t : Str} (I : PInv L m s) (h : s.W.getLast? = some x) (e : pput { s with W := s.W.dropLast } t = some s1) : ∃ m', m' + 14 * t.length + 1 = m ∧ PInv L m' s1 := by
  obtain ⟨e1, rfl⟩ := pput_some e
  obtain ⟨ew, ef⟩ := I.popped h
  have hl : s.W.dropLast.length + 1 = s.W.length := by
    have := congrArg List.length ew
    rw [List.length_append, List.length_singleton] at this; omega
  have hm := I.meas
  have h1 := I.rlen
  have h2 := I.klen
  have e1' : s.size + t.length ≤ 20000 := e1
  refine ⟨14 * (20200 - (s.size + t.length)) + s.W.dropLast.length, by omega, ⟨?_, ?_, ?_, ?_, ?_, ?_, rfl, ?_, ?_⟩⟩
  · show total (s.rows ++ [t]) = s.size + t.length
    rw [total_snoc, I.tot]
  · show s.size + t.length ≤ 20100
    omega
  · intro k v hv
    obtain ⟨p, e, hp⟩ := I.kv k v hv
    exact ⟨p, e, by show p < (s.rows ++ [t]).length; rw [List.length_append]; omega⟩
  · have := I.nd
    rw [ef] at this
    exact (List.nodup_append.mp this).1
  · intro n hn
    exact I.open_ n (by rw [ef]; exact List.mem_append_left _ hn)
  · intro n hn
    exact I.lt n (by rw [ew]; exact List.mem_append_left _ hn)
  · show (s.rows ++ [t]).length + _ ≤ 300000
    rw [List.length_append, List.length_singleton]; omega
  · show s.kvs.length + _ ≤ 300000
    omega
theorem nk_inj {i j : Nat} (h : nk i = nk j) : i = j := by
  have := Sum.inl.inj h
  omega
theorem small_int {n : Nat} (h : n ≤ 100) : IntOk ((n : Nat) : Int) := by
  unfold IntOk
  have e : (10 : Int) ^ 9 = 1000000000 := by decide
  rw [e]; omega
theorem PInv.refer {L : Gr} {m : Nat} {s s1 : PSt} {n : Nat} (few : L.length ≤ 100) (I : PInv L m s) (h : s.W.getLast? = some (.node n)) (ho : (valV s.kvs (nk n)).isSome = true) (e1 : pput { s with W := s.W.dropLast } (("@" : Str) ++ nstr n) = some s1) : ∃ m', m' < m ∧ PInv L m' (preferOf s1 n) := by
  obtain ⟨m1, hm1, J⟩ := I.put h e1
  have hn : n < L.length := I.lt n (List.mem_of_getLast? h)
  have hs := nstr_len (small_int (n := n) (by omega))
  have hk1 : s1.kvs = s.kvs := by obtain ⟨_, rfl⟩ := pput_some e1; rfl
  have hz : s1.size ≤ 20000 := by obtain ⟨z, rfl⟩ := pput_some e1; exact z
  unfold preferOf
  by_cases c : Txt.startswith (s1.rows.getD (place s1.kvs n) "") (nstr n ++ ("=" : Str)) = true
  · rw [if_pos c]
    exact ⟨m1, by omega, J⟩
  · rw [if_neg c]
    obtain ⟨v, hv⟩ := Option.isSome_iff_exists.mp ho
    obtain ⟨_, hp⟩ := place_eq (s := s1) J.kv (v := v) (n := n) (by rw [hk1]; exact hv)
    have a1 := J.meas
    have a2 := J.rlen
    have a3 := J.klen
    have le : (nstr n ++ ("=" : Str)).length = (nstr n).length + 1 := by rw [Str.length_append]; rfl
    refine ⟨14 * (20200 - (s1.size + ((nstr n).length + 1))) + s1.W.length, by omega, ⟨?_, ?_, ?_, J.nd, J.open_, J.lt, rfl, ?_, ?_⟩⟩
    · show total (s1.rows.set _ _) = s1.size + _
      rw [total_set _ _ _ hp, J.tot, le]
    · show s1.size + ((nstr n).length + 1) ≤ 20100
      omega
    · intro k v hv
      obtain ⟨p, e, hp⟩ := J.kv k v hv
      exact ⟨p, e, by show p < (s1.rows.set _ _).length; rw [List.length_set]; exact hp⟩
    · show (s1.rows.set _ _).length + _ ≤ 300000
      rw [List.length_set]; omega
    · show s1.kvs.length + _ ≤ 300000
      omega
theorem PInv.close {L : Gr} {m : Nat} {s s1 : PSt} {n : Nat} (I : PInv L m s) (h : s.W.getLast? = some (.fin n)) (e1 : pput { s with W := s.W.dropLast } (")" : Str) = some s1) : ∃ m', m' < m ∧ PInv L m' { s1 with kvs := dropK s1.kvs (nk n) } := by
  obtain ⟨m1, hm1, J⟩ := I.put h e1
  obtain ⟨ew, ef⟩ := I.popped h
  have hW : s1.W = s.W.dropLast := by obtain ⟨_, rfl⟩ := pput_some e1; rfl
  have hd := I.nd
  rw [ef] at hd
  have a3 := J.klen
  have a4 := dropK_le s1.kvs (nk n)
  refine ⟨m1, by omega, ⟨J.tot, J.small, ?_, J.nd, ?_, J.lt, J.meas, J.rlen, ?_⟩⟩
  · intro k v hv
    have hv' : valV (dropK s1.kvs (nk n)) k = some v := hv
    rw [valV_drop] at hv'
    by_cases c : k = nk n
    · rw [if_pos c] at hv'; cases hv'
    · rw [if_neg c] at hv'
      exact J.kv k v hv'
  · intro j hj
    show (valV (dropK s1.kvs (nk n)) (nk j)).isSome = true
    rw [valV_drop, if_neg ?_]
    · exact J.open_ j hj
    · intro z
      have := nk_inj z
      subst this
      have hj' : j ∈ fins s1.W := hj
      rw [hW] at hj'
      exact (List.nodup_append.mp hd).2.2 _ hj' _ (by show j ∈ [j]; exact List.mem_cons_self) rfl
  · show (dropK s1.kvs (nk n)).length + m1 ≤ 300000
    omega
theorem PInv.begin {L : Gr} {m : Nat} {s s1 : PSt} {n : Nat} (ok : Gok L) (I : PInv L m s) (h : s.W.getLast? = some (.node n)) (ho : valV s.kvs (nk n) = none)
    (e1 : pput { s with W := s.W.dropLast, kvs := putK s.kvs (nk n) (.int ((s.rows.length : Nat) : Int)) } (nameOf (Lw.at_ L n) ++ ("(" : Str)) = some s1) :
    ∃ m', m' < m ∧ PInv L m' { s1 with W := s1.W ++ .fin n :: kidsN (Lw.at_ L n).parts (Lw.at_ L n).parts.length } := by
  obtain ⟨e0, e2⟩ := pput_some e1
  obtain ⟨m1, hm1, J⟩ := I.put (t := nameOf (Lw.at_ L n) ++ ("(" : Str)) (s1 := { s with W := s.W.dropLast, rows := s.rows ++ [nameOf (Lw.at_ L n) ++ ("(" : Str)], size := s.size + (nameOf (Lw.at_ L n) ++ ("(" : Str)).length }) h (by
    have : ¬ 20000 < s.size + (nameOf (Lw.at_ L n) ++ ("(" : Str)).length := by
      have e0' : s.size + (nameOf (Lw.at_ L n) ++ ("(" : Str)).length ≤ 20000 := e0
      omega
    unfold pput
    exact if_neg this)
  have hn : n < L.length := I.lt n (List.mem_of_getLast? h)
  have hp := (ok.nodes n hn).parts
  have hk := kids_len (Lw.at_ L n).parts (Lw.at_ L n).parts.length
  have hlen : (nameOf (Lw.at_ L n) ++ ("(" : Str)).length = (nameOf (Lw.at_ L n)).length + 1 := by rw [Str.length_append]; rfl
  have a0 := J.meas
  have a0' : 14 * (20200 - (s.size + (nameOf (Lw.at_ L n) ++ ("(" : Str)).length)) + s.W.dropLast.length = m1 := a0
  have a1 := J.rlen
  have a1' : (s.rows ++ [nameOf (Lw.at_ L n) ++ ("(" : Str)]).length + m1 ≤ 300000 := a1
  have a2 := J.klen
  have a2' : s.kvs.length + m1 ≤ 300000 := a2
  have a3 := length_putK s.kvs (nk n) (.int ((s.rows.length : Nat) : Int))
  have notin : n ∉ fins s.W := fun z => by
    have := I.open_ n z
    rw [ho] at this; cases this
  have ek : fins (.fin n :: kidsN (Lw.at_ L n).parts (Lw.at_ L n).parts.length) = [n] := by
    show n :: fins _ = [n]
    rw [fins_kids]
  obtain ⟨ew, ef⟩ := I.popped h
  subst e2
  refine ⟨14 * (20200 - (s.size + (nameOf (Lw.at_ L n) ++ ("(" : Str)).length)) + (s.W.dropLast ++ .fin n :: kidsN (Lw.at_ L n).parts (Lw.at_ L n).parts.length).length, ?_, ⟨J.tot, J.small, ?_, ?_, ?_, ?_, rfl, ?_, ?_⟩⟩
  · rw [List.length_append, List.length_cons]
    omega
  · intro k v hv
    have hv' : valV (putK s.kvs (nk n) (.int ((s.rows.length : Nat) : Int))) k = some v := hv
    rw [valV_put] at hv'
    by_cases c : k = nk n
    · rw [if_pos c] at hv'
      exact ⟨s.rows.length, (Option.some.inj hv').symm, by show _ < (s.rows ++ [_]).length; rw [List.length_append, List.length_singleton]; omega⟩
    · rw [if_neg c] at hv'
      exact J.kv k v hv'
  · show (fins (s.W.dropLast ++ _)).Nodup
    rw [fins_app, ek, List.nodup_append]
    refine ⟨J.nd, by simp, ?_⟩
    intro a ha b hb
    rw [List.mem_singleton.mp hb]
    intro z
    subst z
    exact notin (by rw [ef]; exact List.mem_append_left _ ha)
  · intro j hj
    have hj' : j ∈ fins (s.W.dropLast ++ .fin n :: kidsN (Lw.at_ L n).parts (Lw.at_ L n).parts.length) := hj
    show (valV (putK s.kvs (nk n) (.int ((s.rows.length : Nat) : Int))) (nk j)).isSome = true
    rw [valV_put]
    by_cases c : nk j = nk n
    · rw [if_pos c]; rfl
    · rw [if_neg c]
      rw [fins_app, ek] at hj'
      rcases List.mem_append.mp hj' with z | z
      · exact J.open_ j z
      · rw [List.mem_singleton.mp z] at c
        exact absurd rfl c
  · intro j hj
    rcases List.mem_append.mp hj with z | z
    · exact J.lt j z
    · rcases List.mem_cons.mp z with y | y
      · cases y
      · exact (ok.ok.parts n hn j (kids_node _ (Nat.le_refl _) y))
  · show (s.rows ++ [nameOf (Lw.at_ L n) ++ ("(" : Str)]).length + _ ≤ 300000
    have b1 := I.rlen
    rw [List.length_append (as := s.W.dropLast), List.length_cons, List.length_append, List.length_singleton]
    omega
  · show (putK s.kvs (nk n) (.int ((s.rows.length : Nat) : Int))).length + _ ≤ 300000
    have b1 := I.klen
    rw [List.length_append (as := s.W.dropLast), List.length_cons]
    omega
end LwW
set_option maxHeartbeats 4000000
namespace LwW
open PySem PySem.Spec PyProof.Rows L2 LwR
abbrev sLeaf : Stmt := topS 19
abbrev sPrt : Stmt := topS 20
abbrev sPI : Stmt := inClass (topS 20) 0
abbrev sPP : Stmt := inClass (topS 20) 1
abbrev sPW : Stmt := inClass (topS 20) 2
abbrev sPR : Stmt := inClass (topS 20) 3
abbrev sPB : Stmt := inClass (topS 20) 4
abbrev sGT : Stmt := topS 21
theorem scLeaf : FnScope ["node"] ["node"] (defScope sLeaf) := ⟨rfl, rfl, rfl, by decide +kernel, rfl, by decide +kernel, by decide +kernel⟩
theorem scPI : FnScope ["self", "graph"] ["self", "graph"] (defScope sPI) := ⟨rfl, rfl, rfl, by decide +kernel, rfl, by decide +kernel, by decide +kernel⟩
theorem scPP : FnScope ["self", "text"] ["self", "text"] (defScope sPP) := ⟨rfl, rfl, rfl, by decide +kernel, rfl, by decide +kernel, by decide +kernel⟩
theorem scPR : FnScope ["self", "at", "place"] ["self", "at"] (defScope sPR) := ⟨rfl, rfl, rfl, by decide +kernel, rfl, by decide +kernel, by decide +kernel⟩
theorem scPB : FnScope ["self", "at", "waiting", "node", "k"] ["self", "at", "waiting"] (defScope sPB) := ⟨rfl, rfl, rfl, by decide +kernel, rfl, by decide +kernel, by decide +kernel⟩
theorem n_gr : ¬ (("graph" : Str) = "rows") := by decide +kernel
theorem n_gs : ¬ (("graph" : Str) = "size") := by decide +kernel
theorem n_go : ¬ (("graph" : Str) = "open_at") := by decide +kernel
theorem n_rs : ¬ (("rows" : Str) = "size") := by decide +kernel
theorem n_ro : ¬ (("rows" : Str) = "open_at") := by decide +kernel
theorem n_so : ¬ (("size" : Str) = "open_at") := by decide +kernel
def pf (g rl dl : Addr) (z : Int) : List (Str × V) := putF "open_at" (.ref dl) (putF "size" (.int z) (putF "rows" (.ref rl) (putF "graph" (.ref g) [])))
theorem pf_eq (g rl dl : Addr) (z : Int) : pf g rl dl z = [(("graph" : Str), V.ref g), (("rows" : Str), V.ref rl), (("size" : Str), V.int z), (("open_at" : Str), V.ref dl)] := by
  unfold pf
  have e1 : putF "graph" (.ref g) [] = [(("graph" : Str), V.ref g)] := rfl
  have e2 : putF "rows" (.ref rl) [(("graph" : Str), V.ref g)] = [(("graph" : Str), V.ref g), (("rows" : Str), V.ref rl)] := by
    show (if ("graph" : Str) = "rows" then _ else (("graph" : Str), V.ref g) :: [(("rows" : Str), V.ref rl)]) = _
    rw [if_neg n_gr]
  have e3 : putF "size" (.int z) [(("graph" : Str), V.ref g), (("rows" : Str), V.ref rl)] = [(("graph" : Str), V.ref g), (("rows" : Str), V.ref rl), (("size" : Str), V.int z)] := by
    show (if ("graph" : Str) = "size" then _ else (("graph" : Str), V.ref g) :: (if ("rows" : Str) = "size" then _ else (("rows" : Str), V.ref rl) :: [(("size" : Str), V.int z)])) = _
    rw [if_neg n_gs, if_neg n_rs]
  have e4 : putF "open_at" (.ref dl) [(("graph" : Str), V.ref g), (("rows" : Str), V.ref rl), (("size" : Str), V.int z)] = [(("graph" : Str), V.ref g), (("rows" : Str), V.ref rl), (("size" : Str), V.int z), (("open_at" : Str), V.ref dl)] := by
    show (if ("graph" : Str) = "open_at" then _ else (("graph" : Str), V.ref g) :: (if ("rows" : Str) = "open_at" then _ else (("rows" : Str), V.ref rl) :: (if ("size" : Str) = "open_at" then _ else (("size" : Str), V.int z) :: [(("open_at" : Str), V.ref dl)]))) = _
    rw [if_neg n_go, if_neg n_ro, if_neg n_so]
  rw [e1, e2, e3, e4]
theorem pf_len (g rl dl : Addr) (z : Int) : (pf g rl dl z).length < 1000 := by rw [pf_eq]; show 4 < 1000; decide
theorem pf_graph (g rl dl : Addr) (z : Int) : (pf g rl dl z).lookup ("graph" : Str) = some (.ref g) := by
  unfold pf
  rw [lookup_putF, if_neg n_go, lookup_putF, if_neg n_gs, lookup_putF, if_neg n_gr, lookup_putF, if_pos rfl]
theorem pf_rows (g rl dl : Addr) (z : Int) : (pf g rl dl z).lookup ("rows" : Str) = some (.ref rl) := by
  unfold pf
  rw [lookup_putF, if_neg n_ro, lookup_putF, if_neg n_rs, lookup_putF, if_pos rfl]
theorem pf_size (g rl dl : Addr) (z : Int) : (pf g rl dl z).lookup ("size" : Str) = some (.int z) := by
  unfold pf
  rw [lookup_putF, if_neg n_so, lookup_putF, if_pos rfl]
theorem pf_open (g rl dl : Addr) (z : Int) : (pf g rl dl z).lookup ("open_at" : Str) = some (.ref dl) := by
  unfold pf
  rw [lookup_putF, if_pos rfl]
theorem pf_no (g rl dl : Addr) (z : Int) {m : Str} (h1 : ¬ m = "graph") (h2 : ¬ m = "rows") (h3 : ¬ m = "size") (h4 : ¬ m = "open_at") : (pf g rl dl z).lookup m = none := by
  unfold pf
  rw [lookup_putF, if_neg h4, lookup_putF, if_neg h3, lookup_putF, if_neg h2, lookup_putF, if_neg h1]
  rfl
theorem pf_put (g rl dl : Addr) (z y : Int) : putF "size" (.int y) (pf g rl dl z) = pf g rl dl y := by
  rw [pf_eq, pf_eq]
  show (if ("graph" : Str) = "size" then _ else (("graph" : Str), V.ref g) :: (if ("rows" : Str) = "size" then _ else (("rows" : Str), V.ref rl) :: (if ("size" : Str) = "size" then (("size" : Str), V.int y) :: [(("open_at" : Str), V.ref dl)] else _))) = _
  rw [if_neg n_gs, if_neg n_rs, if_pos rfl]
def KeepB (S : List Addr) (H H' : Hp) : Prop := ∀ b o, b ∉ S → H b = some o → H' b = some o
theorem KeepB.refl (S : List Addr) (H : Hp) : KeepB S H H := fun _ _ _ h => h
theorem KeepB.trans {S : List Addr} {H H1 H2 : Hp} (a : KeepB S H H1) (b : KeepB S H1 H2) : KeepB S H H2 := fun c o n h => b c o n (a c o n h)
theorem KeepB.of {S : List Addr} {H H' : Hp} (h : Same H H') : KeepB S H H' := fun c o _ e => h c o e
theorem KeepB.put {S : List Addr} {H : Hp} {p : Addr} {o : HO} (h : p ∈ S) : KeepB S H (upd H p o) := fun b x n e => by
  rw [upd_ne (fun z => n (by rw [z]; exact h))]
  exact e
theorem KeepB.mono {S T : List Addr} {H H' : Hp} (h : KeepB S H H') (st : ∀ x ∈ S, x ∈ T) : KeepB T H H' := fun b o n e => h b o (fun z => n (st b z)) e
theorem KeepB.tk {S : List Addr} {H H' : Hp} (h : KeepB S H H') (hs : ∀ a ∈ S, ∃ o, H a = some o ∧ ∀ xs, o ≠ .tup xs) : TK H H' := fun b xs e => h b _ (fun z => by
  obtain ⟨o, e1, e2⟩ := hs b z
  rw [e1] at e
  exact e2 xs (Option.some.inj e)) e
structure Tm (K : PySem.W.Frag) (mg : Str → Option Value) (X : Addr) : Prop where
  xP : PySem.W.excIn K X [.type "ValueError", .type "Exception", .type "BaseException", .type "object"] "ValueError.__new__" = true
  gP : mg "TooMany" = some (.ref X)
  kP : PySem.W.keepIn K (.ref X) = true
  bP : PySem.W.subIn K (.ref X) (.type "BaseException") = some true
  tP : PySem.W.typeIn K (.ref X) = some (.type "type")
  iP : PySem.W.isClsIn K X = true
  sP : PySem.W.subIn K (.ref X) (.ref X) = some true
structure PrT (K : PySem.W.Frag) (mg : Str → Option Value) (C : Addr) : Prop where
  cl : Cls K C
  nG : NoAttr K C "graph"
  nR : NoAttr K C "rows"
  nS : NoAttr K C "size"
  nO : NoAttr K C "open_at"
  gC : mg "Printer" = some (.ref C)
  gM : ∃ t, mg "MOST_TEXT" = some (.int 20000 t)
  len : mg "len" = none
  str : mg "str" = none
  range : mg "range" = none
  reversed : mg "reversed" = none
structure PrV (C : Addr) (H : Hp) (p g rl dl : Addr) (s : PSt) : Prop where
  ob : ∃ dx, H p = some (.ins C dx (pf g rl dl (s.size : Nat)))
  rw : H rl = some (.lst (s.rows.map V.str))
  dc : H dl = some (.dK s.kvs)
theorem PrV.keep {C : Addr} {H H' : Hp} {p g rl dl : Addr} {s : PSt} (h : PrV C H p g rl dl s) (k : Same H H') : PrV C H' p g rl dl s := by
  obtain ⟨⟨dx, h1⟩, h2, h3⟩ := h
  exact ⟨⟨dx, k _ _ h1⟩, k _ _ h2, k _ _ h3⟩
theorem PrV.rest {C : Addr} {H : Hp} {p g rl dl : Addr} {s s' : PSt} (h : PrV C H p g rl dl s) (e1 : s'.size = s.size) (e2 : s'.rows = s.rows) (e3 : s'.kvs = s.kvs) : PrV C H p g rl dl s' := by
  obtain ⟨h1, h2, h3⟩ := h
  exact ⟨by rw [e1]; exact h1, by rw [e2]; exact h2, by rw [e3]; exact h3⟩
section
variable {P : Program} {w : World} {K : PySem.W.Frag} {mg : Str → Option Value} {base : Heap} {C X : Addr}
def spLeaf : Sp := fun vs H Q _ => ∃ (a : Addr) (nd : Nd), vs = [.ref a] ∧ NodeV H a nd ∧ NdOk nd ∧ word nd ≠ "tuple" ∧ Q (.str (leafT nd)) H
theorem log_small {n : Int} (h : IntOk n) : n.natAbs.log2 < 1920 := by
  unfold IntOk at h
  have e : (10 : Int) ^ 9 = 1000000000 := by decide
  rw [e] at h
  have : n.natAbs ≤ 1000000000 := by omega
  have h2 : n.natAbs < 2 ^ 1920 := Nat.lt_of_le_of_lt this (by decide +kernel)
  by_cases h0 : n.natAbs = 0
  · rw [h0]; decide
  · exact (Nat.log2_lt h0).mpr h2
theorem ok_leaf {f : Addr} {fd : FuncData} {k : Nat} (F : Fun K "leaf_text" "leaf_text" sLeaf f fd) (ms : mg "str" = none) : FnOk P w K mg base CX0 (k + 1) f fd ["node"] spLeaf := by
  refine F.ok scLeaf (fun vs H Q E h => ?_) (fun cdv A outer s H vs Q E hr h => ?_)
  · obtain ⟨a, nd, rfl, _⟩ := h
    rfl
  · obtain ⟨a, nd, rfl, hn, hok, hw, q⟩ := h
    refine ⟨_, pss_cons (ps_if (pt_cmpR op_eq (pe_ix ix_tup (pv 0) pe_int (fun _ _ => rfl)) pe_str (nomark _))
        (pss_one (ps_ret (pe_callTy call_str_int (by rfl) ms PyProof.Rows.boot_str (pa_cons (pe_ix ix_tup (pv 0) pe_int (fun _ _ => rfl)) pa_nil)))) pss_nil)
      (pss_cons (ps_if (pt_cmpR op_eq (pe_ix ix_tup (pv 0) pe_int (fun _ _ => rfl)) pe_str (nomark _))
        (pss_one (ps_ret (pe_ix ix_tup (pv 0) pe_int (fun _ _ => rfl)))) pss_nil)
      (pss_cons (ps_if (pt_cmpR op_eq (pe_ix ix_tup (pv 0) pe_int (fun _ _ => rfl)) pe_str (nomark _))
        (pss_one (ps_ret (pe_op op_add_str pe_str (pe_callTy call_str_int (by rfl) ms PyProof.Rows.boot_str (pa_cons (pe_ix ix_tup (pv 0) pe_int (fun _ _ => rfl)) pa_nil))))) pss_nil)
      (pss_one (ps_ret (pe_op op_add_str (pe_op op_add_str (pe_op op_add_str (pe_op op_add_str pe_str (pe_ix ix_tup (pv 0) pe_int (fun _ _ => rfl))) pe_str) (pe_callTy call_str_int (by rfl) ms PyProof.Rows.boot_str (pa_cons (pe_ix ix_tup (pv 0) pe_int (fun _ _ => rfl)) pa_nil))) pe_str))))), ?_⟩
    obtain ⟨z, hi, ht⟩ := hn.items
    refine ⟨.ref a, rfl, a, _, 0, _, rfl, rfl, SqT.of hi, atI_nat (j := 0) (items0 z nd), rfl, _, rfl, ?_⟩
    cases nd with
    | int n =>
      exact ⟨.ref a, rfl, a, _, 1, .int n, rfl, rfl, SqT.of hi, atI_nat (j := 1) rfl, n, rfl, log_small hok, q⟩
    | atom n =>
      refine ⟨.ref a, rfl, a, _, 0, _, rfl, rfl, SqT.of hi, atI_nat (j := 0) rfl, rfl, _, rfl, ?_⟩
      exact ⟨.ref a, rfl, a, _, 1, .str n, rfl, rfl, SqT.of hi, atI_nat (j := 1) rfl, q⟩
    | var n =>
      refine ⟨.ref a, rfl, a, _, 0, _, rfl, rfl, SqT.of hi, atI_nat (j := 0) rfl, rfl, _, rfl, ?_⟩
      refine ⟨.ref a, rfl, a, _, 0, _, rfl, rfl, SqT.of hi, atI_nat (j := 0) rfl, rfl, _, rfl, ?_⟩
      refine ⟨.ref a, rfl, a, _, 1, .int n, rfl, rfl, SqT.of hi, atI_nat (j := 1) rfl, n, rfl, log_small hok, _, _, rfl, rfl, ?_, q⟩
      have := nstr_len hok
      exact small_sizeL (by show 1 + (nstr n).length ≤ 100000; omega)
    | tup s ps => exact absurd rfl hw
    | name s n =>
      refine ⟨.ref a, rfl, a, _, 0, _, rfl, rfl, SqT.of hi, atI_nat (j := 0) rfl, rfl, _, rfl, ?_⟩
      refine ⟨.ref a, rfl, a, _, 0, _, rfl, rfl, SqT.of hi, atI_nat (j := 0) rfl, rfl, _, rfl, ?_⟩
      have h1 := nstr_len hok.2
      have h2 := hok.1.2.1
      refine ⟨.ref a, rfl, a, _, 1, .str s, rfl, rfl, SqT.of hi, atI_nat (j := 1) rfl, _, _, rfl, rfl, small_sizeL (by show 1 + s.length ≤ 100000; omega), ?_⟩
      have e1 : (("<" : Str) ++ s).length = 1 + s.length := by rw [Str.length_append]; rfl
      refine ⟨_, _, rfl, rfl, small_sizeL (by rw [e1]; show 1 + s.length + 1 ≤ 100000; omega), ?_⟩
      have e2 : (("<" : Str) ++ s ++ (" " : Str)).length = 1 + s.length + 1 := by rw [Str.length_append, e1]; rfl
      refine ⟨.ref a, rfl, a, _, 2, .int n, rfl, rfl, SqT.of hi, atI_nat (j := 2) rfl, n, rfl, log_small hok.2, _, _, rfl, rfl, small_sizeL (by rw [e2]; show 1 + s.length + 1 + (nstr n).length ≤ 100000; omega), ?_⟩
      have e3 : (("<" : Str) ++ s ++ (" " : Str) ++ nstr n).length = 1 + s.length + 1 + (nstr n).length := by rw [Str.length_append, e2]
      exact ⟨_, _, rfl, rfl, small_sizeL (by show (("<" : Str) ++ s ++ (" " : Str) ++ nstr n).length + 1 ≤ 100000; rw [e3]; omega), q⟩
def spPI (C : Addr) : Sp := fun vs H Q _ => ∃ (p g dx : Addr), vs = [.ref p, .ref g] ∧ H p = some (.ins C dx []) ∧ ∀ (rl dl : Addr) (H' : Hp), PrV C H' p g rl dl p0 → H rl = none → H dl = none → KeepB [p] H H' → Q .non H'
theorem ok_pi {f : Addr} {fd : FuncData} {k : Nat} (F : Fun K "__init__" "Printer.__init__" sPI f fd) (T : PrT K mg C) : FnOk P w K mg base CX0 (k + 1) f fd ["self", "graph"] (spPI C) := by
  refine F.ok scPI (fun vs H Q E h => ?_) (fun cdv A outer s H vs Q E hr h => ?_)
  · obtain ⟨p, g, dx, rfl, _⟩ := h
    rfl
  · obtain ⟨p, g, dx, rfl, hp, q⟩ := h
    refine ⟨_, pss_cons (ps_fld (pv 0) (pv 1) rfl) (pss_cons (ps_fld (pv 0) (pe_lst pa_nil) rfl) (pss_cons (ps_fld (pv 0) pe_int rfl) (pss_one (ps_fld (pv 0) pe_dnewK rfl)))), ?_⟩
    refine ⟨_, rfl, _, rfl, p, C, dx, [], rfl, hp, T.cl, T.nG, (by show 0 < 1000; decide), ?_⟩
    have k1 : KeepB [p] H (upd H p (.ins C dx (putF "graph" (.ref g) []))) := KeepB.put (List.mem_cons_self)
    have h1 : (upd H p (.ins C dx (putF "graph" (.ref g) []))) p = some (.ins C dx (putF "graph" (.ref g) [])) := upd_same
    have n1 : ∀ b, (upd H p (.ins C dx (putF "graph" (.ref g) []))) b = none → H b = none := fun b z => by
      by_cases e : b = p
      · subst e; rw [upd_same] at z; cases z
      · rw [upd_ne e] at z; exact z
    generalize upd H p (.ins C dx (putF "graph" (.ref g) [])) = H1 at k1 h1 n1
    refine ⟨Nat.zero_le _, fun rl nrl => ?_⟩
    have npr : p ≠ rl := ne_of_none h1 nrl
    refine ⟨_, rfl, p, C, dx, _, rfl, (upd_ne npr).trans h1, T.cl, T.nR, (by show 1 < 1000; decide), ?_⟩
    refine ⟨_, rfl, p, C, dx, _, rfl, upd_same, T.cl, T.nS, (by show 2 < 1000; decide), ?_⟩
    intro dl ndl
    have npd : p ≠ dl := fun z => by rw [z, upd_same] at ndl; cases ndl
    have nrd : rl ≠ dl := fun z => by rw [← z, upd_ne npr.symm, upd_ne npr.symm, upd_same] at ndl; cases ndl
    have ndl1 : H1 dl = none := by rw [upd_ne npd.symm, upd_ne npd.symm, upd_ne nrd.symm] at ndl; exact ndl
    refine ⟨_, rfl, p, C, dx, _, rfl, (upd_ne npd).trans upd_same, T.cl, T.nO, (by show 3 < 1000; decide), ?_⟩
    refine q rl dl _ ⟨⟨dx, upd_same⟩, ?_, ?_⟩ (n1 _ nrl) (n1 _ ndl1) fun b o n e => ?_
    · show upd _ p _ rl = some (.lst [])
      rw [upd_ne npr.symm, upd_ne nrd, upd_ne npr.symm, upd_ne npr.symm, upd_same]
    · show upd _ p _ dl = some (.dK [])
      rw [upd_ne npd.symm, upd_same]
    · have e1 := k1 b o n e
      have nb : b ≠ p := fun z => n (by rw [z]; exact List.mem_cons_self)
      rw [upd_ne nb, upd_ne (ne_of_none e1 ndl1), upd_ne nb, upd_ne nb, upd_ne (ne_of_none e1 nrl)]
      exact e1
def spPP (C X : Addr) : Sp := fun vs H Q E => ∃ (p g rl dl : Addr) (s : PSt) (t : Str), vs = [.ref p, .str t] ∧ PrV C H p g rl dl s ∧ t.length ≤ 100000 ∧ s.rows.length < 300000 ∧
  (∀ s' H', pput s t = some s' → PrV C H' p g rl dl s' → KeepB [p, rl] H H' → Q .non H') ∧ (∀ H', pput s t = none → KeepB [p, rl] H H' → E (.ref X) none H')
theorem size3 {n : Nat} (h : n < 300001) : n < sizeLine := by rw [sizeLine_eq]; omega
theorem ok_pp {f : Addr} {fd : FuncData} {k : Nat} (F : Fun K "put" "Printer.put" sPP f fd) (T : PrT K mg C) (M : Tm K mg X) : FnOk P w K mg base (L2.CX P w) (k + 1) f fd ["self", "text"] (spPP C X) := by
  refine F.okX scPP (fun vs H Q E h => ?_) (fun cdv A outer s H vs Q E hr h => ?_)
  · obtain ⟨p, g, rl, dl, s, t, rfl, _⟩ := h
    rfl
  · obtain ⟨p, g, rl, dl, s, t, rfl, hp, tl, hrl, q, qx⟩ := h
    obtain ⟨tM, gM⟩ := T.gM
    refine ⟨_, pss_cons (ps_fldaug (pv 0) (pe_callB call_len_str (by rfl) T.len PySem.boot_len (pa_cons (pv 1) pa_nil)) in_add)
      (pss_cons (ps_if (pt_cmpR op_gt (pe_fld (pv 0) rfl) (pe_glob (v := .int 20000) rfl gM ⟨_, rfl⟩) (nomark _))
        (pss_one (ps_raise rfl (takes_of rfl rfl rfl rfl) (pmk_own PySem.F.excBase_ValueError M.xP M.gP M.kP (raises_own M.bP M.tP) rfl))) pss_nil)
      (pss_one (ps_expr (pe_bm PySem.F.plainAttrs_list PySem.F.slot_list_append PySem.F.type_list_append mt_append (pe_fld (pv 0) rfl) (pa_cons (pv 1) pa_nil))))), ?_⟩
    obtain ⟨⟨dx, h1⟩, h2, h3⟩ := id hp
    have npr : p ≠ rl := ne_of h1 h2 (by intro z; cases z)
    have npd : p ≠ dl := ne_of h1 h3 (by intro z; cases z)
    have nrd : rl ≠ dl := ne_of h2 h3 (by intro z; cases z)
    refine ⟨_, rfl, p, C, dx, _, _, rfl, h1, T.cl, T.nS, pf_size _ _ _ _, _, rfl, _, rfl, small_sizeL tl, _, _, rfl, rfl, dx, _, h1, pf_len _ _ _ _, ?_⟩
    rw [pf_put]
    have ee : ((s.size : Nat) : Int) + ((t.length : Nat) : Int) = ((s.size + t.length : Nat) : Int) := by omega
    rw [ee]
    have k1 : KeepB [p, rl] H (upd H p (.ins C dx (pf g rl dl ((s.size + t.length : Nat) : Int)))) := KeepB.put List.mem_cons_self
    have g1 : (upd H p (.ins C dx (pf g rl dl ((s.size + t.length : Nat) : Int)))) p = some (.ins C dx (pf g rl dl ((s.size + t.length : Nat) : Int))) := upd_same
    have g2 : (upd H p (.ins C dx (pf g rl dl ((s.size + t.length : Nat) : Int)))) rl = _ := (upd_ne npr.symm).trans h2
    have g3 : (upd H p (.ins C dx (pf g rl dl ((s.size + t.length : Nat) : Int)))) dl = _ := (upd_ne npd.symm).trans h3
    generalize upd H p (.ins C dx (pf g rl dl ((s.size + t.length : Nat) : Int))) = H1 at k1 g1 g2 g3
    refine ⟨_, rfl, p, C, dx, _, _, rfl, g1, T.cl, T.nS, pf_size _ _ _ _, _, _, rfl, rfl, _, rfl, ite2 (fun e => ?_) (fun e => ?_)⟩
    · have e1 : 20000 < s.size + t.length := by
        have := of_decide_eq_true e
        omega
      exact qx H1 (if_pos e1) k1
    · have e1 : ¬ 20000 < s.size + t.length := fun z => e (decide_eq_true (by omega))
      refine ⟨_, rfl, p, C, dx, _, _, rfl, g1, T.cl, T.nR, pf_rows _ _ _ _, .inl ⟨rfl, _, SqL.of g2⟩, _, rfl, rl, _, _, rfl, rfl, g2, by rw [List.length_map]; exact size3 (by omega), ?_⟩
      refine q { s with rows := s.rows ++ [t], size := s.size + t.length } _ (if_neg e1) ⟨⟨dx, (upd_ne npr).trans g1⟩, ?_, (upd_ne nrd.symm).trans g3⟩ (k1.trans (KeepB.put (by simp)))
      rw [upd_same, List.map_append]; rfl
end
end LwW
set_option maxHeartbeats 4000000
namespace LwW
open PySem PySem.Spec PyProof.Rows L2 LwR
theorem getD_le_total : ∀ (rows : List Str) (p : Nat), (rows.getD p "").length ≤ total rows
  | [], p => by simp [total]; rfl
  | x :: r, 0 => by show x.length ≤ ((x :: r).map (·.length)).sum; rw [List.map_cons, List.sum_cons]; omega
  | x :: r, p + 1 => by
    have ih := getD_le_total r p
    show (r.getD p "").length ≤ ((x :: r).map (·.length)).sum
    unfold total at ih
    rw [List.map_cons, List.sum_cons]; omega
theorem strs_get {rows : List Str} {p : Nat} (h : p < rows.length) : (rows.map V.str)[p]? = some (.str (rows.getD p "")) := by
  rw [List.getElem?_map, List.getD_eq_getElem?_getD, List.getElem?_eq_getElem h]; rfl
def itV : It → List V
  | .node n => [.str "node", .int (n : Nat)]
  | .sp => [.str "text", .str " "]
  | .fin n => [.str "end", .int (n : Nat)]
structure ItsV (H : Hp) (as : List Addr) (W : List It) : Prop where
  len : as.length = W.length
  item : ∀ (i : Nat) (b : Addr) (x : It), as[i]? = some b → W[i]? = some x → H b = some (.tup (itV x))
theorem ItsV.keep {H H' : Hp} {as : List Addr} {W : List It} (t : TK H H') (h : ItsV H as W) : ItsV H' as W := ⟨h.len, fun i b x e e2 => t _ _ (h.item i b x e e2)⟩
theorem ItsV.snoc {H : Hp} {as : List Addr} {W : List It} {b : Addr} {x : It} (h : ItsV H as W) (hb : H b = some (.tup (itV x))) : ItsV H (as ++ [b]) (W ++ [x]) := by
  refine ⟨by rw [List.length_append, List.length_append, h.len]; rfl, fun i c y e e2 => ?_⟩
  by_cases hi : i < as.length
  · rw [List.getElem?_append_left hi] at e
    rw [List.getElem?_append_left (by rw [← h.len]; exact hi)] at e2
    exact h.item i c y e e2
  · rw [List.getElem?_append_right (by omega)] at e
    rw [List.getElem?_append_right (by rw [← h.len]; omega)] at e2
    have h0 : i - as.length = 0 := by
      have := (List.getElem?_eq_some_iff.mp e).1
      rw [List.length_singleton] at this; omega
    rw [h0] at e
    rw [← h.len, h0] at e2
    cases e; cases e2
    exact hb
theorem ifT {c : Bool} {A B : Prop} (hc : c = true) (h : A) : if c = true then A else B := by
  rw [if_pos hc]
  exact h
theorem ifF {c : Bool} {A B : Prop} (hc : c = false) (h : B) : if c = true then A else B := by
  rw [hc, if_neg Bool.false_ne_true]
  exact h
section
variable {P : Program} {w : World} {K : PySem.W.Frag} {mg : Str → Option Value} {base : Heap} {C X : Addr}
def spPR (C X : Addr) : Sp := fun vs H Q E => ∃ (p g rl dl : Addr) (s : PSt) (n : Nat), vs = [.ref p, .int (n : Nat)] ∧ PrV C H p g rl dl s ∧ (valV s.kvs (nk n)).isSome = true ∧ KvOk s ∧ n ≤ 100 ∧ total s.rows = s.size ∧ s.rows.length < 300000 ∧
  (∀ s' H', prefer s n = some s' → PrV C H' p g rl dl s' → KeepB [p, rl] H H' → Q .non H') ∧ (∀ H', prefer s n = none → KeepB [p, rl] H H' → E (.ref X) none H')
theorem ok_pr {f fP : Addr} {fd fdP : FuncData} {k : Nat} (F : Fun K "refer" "Printer.refer" sPR f fd) (T : PrT K mg C) (mP : Meth K C "put" fP) (GP : FnOk P w K mg base (L2.CX P w) (k + 1) fP fdP ["self", "text"] (spPP C X)) (bP : Binds K fdP ["self", "text"] []) :
    FnOk P w K mg base (L2.CX P w) (k + 2) f fd ["self", "at"] (spPR C X) := by
  refine F.okX scPR (fun vs H Q E h => ?_) (fun cdv A outer s0 H vs Q E hr h => ?_)
  · obtain ⟨p, g, rl, dl, s, n, rfl, _⟩ := h
    rfl
  · obtain ⟨p, g, rl, dl, s, n, rfl, hp, ho, hkv, hn, ht, hrl, q, qx⟩ := h
    have hu := hu_of hr
    refine ⟨_, pss_cons (ps_expr (pe_meth (pv 0) T.cl mP GP hr bP .nil (passes_call (takes_of rfl rfl rfl rfl) (fun _ _ _ _ h => h)) (pa_cons (pe_op op_add_str pe_str (pe_callTy call_str_int (by rfl) T.str PyProof.Rows.boot_str (pa_cons (pv 1) pa_nil))) pa_nil)))
      (pss_cons (ps_set (i := 2) scPR.nd rfl (.inl rfl) (pe_dget hu (pe_fld (pv 0) rfl) (pv 1) (fun _ _ => rfl)))
      (pss_one (ps_if (pt_not (pt_val (pe_m1 PySem.F.slot_str_startswith PySem.F.type_str_startswith mt_startswith (pe_ix ix_list (pe_fld (pv 0) rfl) (pv 2) (fun _ _ => rfl)) (pe_op op_add_str (pe_callTy call_str_int (by rfl) T.str PyProof.Rows.boot_str (pa_cons (pv 1) pa_nil)) pe_str))))
        (pss_cons (ps_fldaug (pv 0) (pe_op op_add (pe_callB call_len_str (by rfl) T.len PySem.boot_len (pa_cons (pe_callTy call_str_int (by rfl) T.str PyProof.Rows.boot_str (pa_cons (pv 1) pa_nil)) pa_nil)) pe_int) in_add)
        (pss_one (ps_asg (pe_op op_add_str (pe_op op_add_str (pe_callTy call_str_int (by rfl) T.str PyProof.Rows.boot_str (pa_cons (pv 1) pa_nil)) pe_str) (pe_ix ix_list (pe_fld (pv 0) rfl) (pv 2) (fun _ _ => rfl))) (pg_sub (pe_fld (pv 0) rfl) (pv 2) set_list))))
        pss_nil))), ?_⟩
    have hi := small_int hn
    have hlg := log_small hi
    have hs := nstr_len hi
    have l1 : (("@" : Str) ++ nstr n).length = 1 + (nstr n).length := by rw [Str.length_append]; rfl
    have l2 : (nstr n ++ ("=" : Str)).length = (nstr n).length + 1 := by rw [Str.length_append]; rfl
    obtain ⟨⟨dx, h1⟩, h2, h3⟩ := id hp
    refine ⟨_, rfl, p, dx, _, rfl, h1, pf_no _ _ _ _ (by decide +kernel) (by decide +kernel) (by decide +kernel) (by decide +kernel), _, rfl, _, rfl, hlg, _, _, rfl, rfl, small_sizeL (by show 1 + (nstr n).length ≤ 100000; omega), ?_⟩
    refine ⟨p, g, rl, dl, s, ("@" : Str) ++ nstr n, rfl, hp, by rw [l1]; omega, hrl, fun s1 H1 e1 hp1 k1 => ?_, fun H1 e1 k1 => qx H1 (by unfold prefer; rw [e1]; rfl) k1⟩
    have ef : prefer s n = some (preferOf s1 n) := by unfold prefer; rw [e1]; rfl
    obtain ⟨z1, z2⟩ := pput_some e1
    have hk1 : s1.kvs = s.kvs := by rw [z2]
    have ht1 : total s1.rows = s1.size := by rw [z2]; show total (s.rows ++ [_]) = s.size + _; rw [total_snoc, ht]
    have hz1 : s1.size ≤ 20000 := by rw [z2]; exact z1
    have hkv1 : KvOk s1 := fun k v hv => by
      rw [hk1] at hv
      obtain ⟨p', e, hp'⟩ := hkv k v hv
      exact ⟨p', e, by rw [z2]; show p' < (s.rows ++ [_]).length; rw [List.length_append]; omega⟩
    obtain ⟨v, hv⟩ := Option.isSome_iff_exists.mp ho
    rw [← hk1] at hv
    obtain ⟨ev, hpl⟩ := place_eq hkv1 hv
    subst ev
    generalize hPl : place s1.kvs n = pl at hpl hv
    have hrow := getD_le_total s1.rows pl
    obtain ⟨⟨dx1, h11⟩, h12, h13⟩ := id hp1
    have hg := strs_get hpl
    refine ⟨_, rfl, p, C, dx1, _, _, rfl, h11, T.cl, T.nO, pf_open _ _ _ _, _, rfl, dl, .int (pl : Nat), rfl, (by have z := DGet.k (k := nk n) h13; rw [hv] at z; exact z), ?_⟩
    refine ⟨_, rfl, p, C, dx1, _, _, rfl, h11, T.cl, T.nR, pf_rows _ _ _ _, _, rfl, rl, _, _, _, rfl, rfl, SqL.of h12, atI_nat hg, ⟨_, rfl⟩, _, rfl, _, rfl, hlg, _, _, rfl, rfl, small_sizeL (by show (nstr n).length + 1 ≤ 100000; omega), _, _, rfl, rfl, _, rfl, ?_⟩
    by_cases c : Txt.startswith (s1.rows.getD pl "") (nstr n ++ ("=" : Str)) = true
    · have e2 : preferOf s1 n = s1 := by unfold preferOf; rw [hPl, if_pos c]
      have c' : Txt.startswith (s1.rows.getD pl "") (Str.ofString (toString ((n : Nat) : Int)) ++ ("=" : Str)) = true := c
      refine ifF ?_ ?_
      · rw [c']; rfl
      · exact q s1 H1 (by rw [ef, e2]) hp1 k1
    · have e2 : preferOf s1 n = { s1 with size := s1.size + ((nstr n).length + 1), rows := s1.rows.set pl (nstr n ++ ("=" : Str) ++ s1.rows.getD pl "") } := by unfold preferOf; rw [hPl, if_neg c]
      have c' : Txt.startswith (s1.rows.getD pl "") (Str.ofString (toString ((n : Nat) : Int)) ++ ("=" : Str)) = false := Bool.eq_false_iff.mpr c
      refine ifT ?_ ?_
      · rw [c']; rfl
      have npr : p ≠ rl := ne_of h11 h12 (by intro z; cases z)
      have npd : p ≠ dl := ne_of h11 h13 (by intro z; cases z)
      have nrd : rl ≠ dl := ne_of h12 h13 (by intro z; cases z)
      refine ⟨_, rfl, p, C, dx1, _, _, rfl, h11, T.cl, T.nS, pf_size _ _ _ _, _, rfl, _, rfl, hlg, _, rfl, small_sizeL (by show (nstr n).length ≤ 100000; omega), _, _, rfl, rfl, _, _, rfl, rfl, dx1, _, h11, pf_len _ _ _ _, ?_⟩
      rw [pf_put]
      have ee : ((s1.size : Nat) : Int) + (((Str.ofString (toString ((n : Nat) : Int))).length : Int) + 1) = ((s1.size + ((nstr n).length + 1) : Nat) : Int) := by
        show ((s1.size : Nat) : Int) + (((nstr n).length : Int) + 1) = _
        omega
      rw [ee]
      have k2 : KeepB [p, rl] H1 (upd H1 p (.ins C dx1 (pf g rl dl ((s1.size + ((nstr n).length + 1) : Nat) : Int)))) := KeepB.put List.mem_cons_self
      have g1 : (upd H1 p (.ins C dx1 (pf g rl dl ((s1.size + ((nstr n).length + 1) : Nat) : Int)))) p = some (.ins C dx1 (pf g rl dl ((s1.size + ((nstr n).length + 1) : Nat) : Int))) := upd_same
      have g2 : (upd H1 p (.ins C dx1 (pf g rl dl ((s1.size + ((nstr n).length + 1) : Nat) : Int)))) rl = _ := (upd_ne npr.symm).trans h12
      have g3 : (upd H1 p (.ins C dx1 (pf g rl dl ((s1.size + ((nstr n).length + 1) : Nat) : Int)))) dl = _ := (upd_ne npd.symm).trans h13
      generalize upd H1 p (.ins C dx1 (pf g rl dl ((s1.size + ((nstr n).length + 1) : Nat) : Int))) = H2 at k2 g1 g2 g3
      have l3 : (nstr n ++ ("=" : Str)).length + (s1.rows.getD pl "").length ≤ 100000 := by rw [l2]; omega
      refine ⟨_, rfl, _, rfl, hlg, _, _, rfl, rfl, small_sizeL (by show (nstr n).length + 1 ≤ 100000; omega), ?_⟩
      refine ⟨_, rfl, p, C, dx1, _, _, rfl, g1, T.cl, T.nR, pf_rows _ _ _ _, _, rfl, rl, _, _, _, rfl, rfl, SqL.of g2, atI_nat hg, _, _, rfl, rfl, small_sizeL l3, ?_⟩
      refine ⟨_, rfl, p, C, dx1, _, _, rfl, g1, T.cl, T.nR, pf_rows _ _ _ _, _, rfl, rl, _, _, pl, rfl, rfl, g2, ixN_nat (by rw [List.length_map]; exact hpl), ?_⟩
      refine q { s1 with size := s1.size + ((nstr n).length + 1), rows := s1.rows.set pl (nstr n ++ ("=" : Str) ++ s1.rows.getD pl "") } _ (by rw [ef, e2]) ⟨⟨dx1, (upd_ne npr).trans g1⟩, ?_, (upd_ne nrd.symm).trans g3⟩ (k1.trans (k2.trans (KeepB.put (by simp))))
      rw [upd_same, ← List.map_set]; rfl
def spPB (C X : Addr) : Sp := fun vs H Q E => ∃ (p g rl dl wl : Addr) (s : PSt) (n : Nat) (L : Gr) (as : List Addr), vs = [.ref p, .int (n : Nat), .ref wl] ∧ PrV C H p g rl dl s ∧ GrV H g L ∧ Gok L ∧ n < L.length ∧ word (Lw.at_ L n) = "tuple" ∧
  H wl = some (.lst (as.map V.ref)) ∧ ItsV H as s.W ∧ wl ≠ rl ∧ s.rows.length < 300000 ∧ s.kvs.length < 300001 ∧ s.W.length < 300001 ∧
  (∀ s' H' as', pbegin L s n = some s' → PrV C H' p g rl dl s' → H' wl = some (.lst (as'.map V.ref)) → ItsV H' as' s'.W → KeepB [p, rl, dl, wl] H H' → Q .non H') ∧ (∀ H', pbegin L s n = none → KeepB [p, rl, dl, wl] H H' → E (.ref X) none H')
theorem ok_pb {f fP : Addr} {fd fdP : FuncData} {k : Nat} (F : Fun K "begin" "Printer.begin" sPB f fd) (T : PrT K mg C) (mP : Meth K C "put" fP) (GP : FnOk P w K mg base (L2.CX P w) (k + 1) fP fdP ["self", "text"] (spPP C X)) (bP : Binds K fdP ["self", "text"] []) :
    FnOk P w K mg base (L2.CX P w) (k + 2) f fd ["self", "at", "waiting"] (spPB C X) := by
  refine F.okX scPB (fun vs H Q E h => ?_) (fun cdv A outer s0 H vs Q E hr h => ?_)
  · obtain ⟨p, g, rl, dl, wl, s, n, L, as, rfl, _⟩ := h
    rfl
  · obtain ⟨p, g, rl, dl, wl, s, n, L, as, rfl, hp, hG, ok, hn, hw, hwl, hI, nwr, hrl, hkl, hWl, q, qx⟩ := h
    have hu := hu_of hr
    refine ⟨_, pss_cons (ps_set (i := 3) scPB.nd rfl (.inl rfl) (pe_ix ix_tup (pe_fld (pv 0) rfl) (pv 1) (fun _ _ => rfl)))
      (pss_cons (ps_dput hu (pe_fld (pv 0) rfl) (pv 1) (pe_callB call_len_seq (by rfl) T.len PySem.boot_len (pa_cons (pe_fld (pv 0) rfl) pa_nil)) rfl)
      (pss_cons (ps_expr (pe_meth (pv 0) T.cl mP GP hr bP .nil (passes_call (takes_of rfl rfl rfl rfl) (fun _ _ _ _ h => h)) (pa_cons (pe_op op_add_str (pe_ix ix_tup (pv 3) pe_int (fun _ _ => rfl)) pe_str) pa_nil)))
      (pss_cons (ps_expr (pe_bm PySem.F.plainAttrs_list PySem.F.slot_list_append PySem.F.type_list_append mt_append (pv 2) (pa_cons (pe_tup (pa_cons pe_str (pa_cons (pv 1) pa_nil))) pa_nil)))
      (pss_one (ps_for (passes_of rfl) rfl (pi_revR (by rfl) T.reversed (prg_1 (by rfl) T.range (pe_callB call_len_seq (by rfl) T.len PySem.boot_len (pa_cons (pe_ix ix_tup (pv 3) pe_int (fun _ _ => rfl)) pa_nil)))) (pg_name (i := 4) scPB.nd rfl (.inl rfl))
        (pss_cons (ps_expr (pe_bm PySem.F.plainAttrs_list PySem.F.slot_list_append PySem.F.type_list_append mt_append (pv 2) (pa_cons (pe_tup (pa_cons pe_str (pa_cons (pe_ix ix_tup (pe_ix ix_tup (pv 3) pe_int (fun _ _ => rfl)) (pv 4) (fun _ _ => rfl)) pa_nil))) pa_nil)))
        (pss_one (ps_if (pt_cmpR op_gt (pv 4) pe_int (nomark _))
          (pss_one (ps_expr (pe_bm PySem.F.plainAttrs_list PySem.F.slot_list_append PySem.F.type_list_append mt_append (pv 2) (pa_cons (pe_tup (pa_cons pe_str (pa_cons pe_str pa_nil))) pa_nil)))) pss_nil)))))))), ?_⟩
    obtain ⟨⟨dx, h1⟩, h2, h3⟩ := id hp
    obtain ⟨ls, hg, hls⟩ := hG
    have npr : p ≠ rl := ne_of h1 h2 (by intro z; cases z)
    have npd : p ≠ dl := ne_of h1 h3 (by intro z; cases z)
    have nrd : rl ≠ dl := ne_of h2 h3 (by intro z; cases z)
    have npw : p ≠ wl := ne_of h1 hwl (by intro z; cases z)
    have nwd : wl ≠ dl := ne_of hwl h3 (by intro z; cases z)
    obtain ⟨b, hb⟩ : ∃ b, ls[n]? = some b := ⟨_, List.getElem?_eq_getElem (by rw [hls.len]; exact hn)⟩
    have hnd := hls.node n b hb
    have hok := ok.nodes n hn
    obtain ⟨nm, ps, en⟩ := (word_tup _).mp hw
    rw [en] at hnd hok
    have hpb : pbegin L s n = (pput { s with kvs := putK s.kvs (nk n) (.int ((s.rows.length : Nat) : Int)) } (nm ++ ("(" : Str))).map fun s1 => { s1 with W := s1.W ++ .fin n :: kidsN ps ps.length } := by
      unfold pbegin
      rw [en]; rfl
    have hps := hok.2
    have hnml := hok.1.2.1
    obtain ⟨pq, hb1, hpq⟩ := hnd
    have lnm : (nm ++ ("(" : Str)).length = nm.length + 1 := by rw [Str.length_append]; rfl
    refine ⟨_, rfl, p, C, dx, _, _, rfl, h1, T.cl, T.nG, pf_graph _ _ _ _, _, rfl, g, _, _, _, rfl, rfl, SqT.of hg, atI_nat (map_ref_get hb), ?_⟩
    refine ⟨_, rfl, p, C, dx, _, _, rfl, h1, T.cl, T.nR, pf_rows _ _ _ _, rl, _, rfl, .inl (SqL.of h2), ?_⟩
    rw [List.length_map]
    refine ⟨_, rfl, p, C, dx, _, _, rfl, h1, T.cl, T.nO, pf_open _ _ _ _, _, rfl, dl, _, rfl, DPut.k (k := nk n) h3 (size3 hkl), ?_⟩
    have k1 : KeepB [p, rl, dl, wl] H (upd H dl (.dK (putK s.kvs (nk n) (.int ((s.rows.length : Nat) : Int))))) := KeepB.put (by simp)
    have p1 : PrV C (upd H dl (.dK (putK s.kvs (nk n) (.int ((s.rows.length : Nat) : Int))))) p g rl dl { s with kvs := putK s.kvs (nk n) (.int ((s.rows.length : Nat) : Int)) } := ⟨⟨dx, (upd_ne npd).trans h1⟩, (upd_ne nrd).trans h2, upd_same⟩
    have w1 : (upd H dl (.dK (putK s.kvs (nk n) (.int ((s.rows.length : Nat) : Int))))) wl = some (.lst (as.map V.ref)) := (upd_ne nwd).trans hwl
    have t1 : TK H (upd H dl (.dK (putK s.kvs (nk n) (.int ((s.rows.length : Nat) : Int))))) := fun c xs e => (upd_ne (ne_of e h3 (by intro z; cases z))).trans e
    generalize upd H dl (.dK (putK s.kvs (nk n) (.int ((s.rows.length : Nat) : Int)))) = H1 at k1 p1 w1 t1
    obtain ⟨⟨dx1, g1⟩, g2, g3⟩ := id p1
    refine ⟨_, rfl, p, dx1, _, rfl, g1, pf_no _ _ _ _ (by decide +kernel) (by decide +kernel) (by decide +kernel) (by decide +kernel), .ref b, rfl, b, _, 1, .str nm, rfl, rfl, SqT.of (t1 _ _ hb1), atI_nat (j := 1) rfl, _, _, rfl, rfl, small_sizeL (by show nm.length + 1 ≤ 100000; omega), ?_⟩
    refine ⟨p, g, rl, dl, _, nm ++ ("(" : Str), rfl, p1, by rw [lnm]; omega, hrl, fun s2 H2 e2 p2 k2 => ?_, fun H2 e2 k2 => qx H2 (by rw [hpb, e2]; rfl) (k1.trans (k2.mono (by simp)))⟩
    have hW2 : s2.W = s.W := by obtain ⟨_, rfl⟩ := pput_some e2; rfl
    have t2 : TK H1 H2 := k2.tk (fun a ha => by
      rcases List.mem_cons.mp ha with z | z
      · exact ⟨_, by rw [z]; exact g1, fun xs z => by cases z⟩
      · exact ⟨_, by rw [List.mem_singleton.mp z]; exact g2, fun xs z => by cases z⟩)
    have w2 : H2 wl = some (.lst (as.map V.ref)) := k2 _ _ (by simp [npw.symm, nwr]) w1
    have i2 := hI.keep (t1.trans t2)
    have hb2 := t2 _ _ (t1 _ _ hb1)
    have hpq2 := t2 _ _ (t1 _ _ hpq)
    have k02 : KeepB [p, rl, dl, wl] H H2 := k1.trans (k2.mono (by simp))
    obtain ⟨⟨dx2, m1⟩, m2, m3⟩ := id p2
    have lenA : as.length = s.W.length := hI.len
    refine ⟨.ref wl, rfl, .inl ⟨rfl, _, SqL.of w2⟩, _, rfl, by show 2 ≤ sizeLine; decide, fun t nt => ?_⟩
    have st : Same H2 (upd H2 t (.tup [.str "end", .int ((n : Nat) : Int)])) := same_upd nt
    have ht : (upd H2 t (.tup [.str "end", .int ((n : Nat) : Int)])) t = some (.tup [.str "end", .int ((n : Nat) : Int)]) := upd_same
    refine ⟨wl, _, _, rfl, rfl, st _ _ w2, by rw [List.length_map]; exact size3 (by omega), ?_⟩
    have emap : as.map V.ref ++ [V.ref t] = (as ++ [t]).map V.ref := by rw [List.map_append]; rfl
    rw [emap]
    have t3 : TK H2 (upd (upd H2 t (.tup [.str "end", .int ((n : Nat) : Int)])) wl (.lst ((as ++ [t]).map V.ref))) := (TK.of st).trans fun c xs e => (upd_ne (ne_of e (st _ _ w2) (by intro z; cases z))).trans e
    have w3 : (upd (upd H2 t (.tup [.str "end", .int ((n : Nat) : Int)])) wl (.lst ((as ++ [t]).map V.ref))) wl = some (.lst ((as ++ [t]).map V.ref)) := upd_same
    have i3 : ItsV (upd (upd H2 t (.tup [.str "end", .int ((n : Nat) : Int)])) wl (.lst ((as ++ [t]).map V.ref))) (as ++ [t]) (s2.W ++ [.fin n]) := by
      rw [hW2]
      exact (i2.keep t3).snoc ((upd_ne (ne_of ht (st _ _ w2) (by intro z; cases z))).trans ht)
    have k3 : KeepB [p, rl, dl, wl] H (upd (upd H2 t (.tup [.str "end", .int ((n : Nat) : Int)])) wl (.lst ((as ++ [t]).map V.ref))) := (k02.trans (KeepB.of st)).trans (KeepB.put (by simp))
    have p3 : PrV C (upd (upd H2 t (.tup [.str "end", .int ((n : Nat) : Int)])) wl (.lst ((as ++ [t]).map V.ref))) p g rl dl s2 := ⟨⟨dx2, (upd_ne npw).trans (st _ _ m1)⟩, (upd_ne nwr.symm).trans (st _ _ m2), (upd_ne nwd.symm).trans (st _ _ m3)⟩
    have ht' : (as ++ [t]).length ≤ 300001 := by rw [List.length_append, List.length_singleton]; omega
    generalize upd (upd H2 t (.tup [.str "end", .int ((n : Nat) : Int)])) wl (.lst ((as ++ [t]).map V.ref)) = H3 at t3 w3 i3 k3 p3
    generalize as ++ [t] = as3 at w3 i3 ht'
    have hb3 := t3 _ _ hb2
    have hpq3 := t3 _ _ hpq2
    have e62 : (2 : Int) ^ 62 = 4611686018427387904 := by decide
    have hpl : (List.map (fun (p : Nat) => V.int p) ps).length = ps.length := List.length_map _
    refine ⟨.ref b, rfl, b, _, 2, .ref pq, rfl, rfl, SqT.of hb3, atI_nat (j := 2) rfl, pq, _, rfl, .inr (SqT.of hpq3), _, rfl, by decide, by decide, by rw [hpl, e62]; omega, by rw [hpl, e62]; omega, ?_⟩
    rw [hpl]
    have en0 : (((ps.length : Nat) : Int) - 0).toNat = ps.length := by omega
    rw [en0]
    refine for_rangeC (fun i σ H4 => ∃ (y4 : Option V) (as4 : List Addr), σ = [some (.ref p), some (.int (n : Nat)), some (.ref wl), some (.ref b), y4] ∧ PrV C H4 p g rl dl s2 ∧ H4 wl = some (.lst (as4.map V.ref)) ∧ as4.length ≤ 300001 + 2 * i ∧ ItsV H4 as4 (s2.W ++ .fin n :: kidsN ps i) ∧ KeepB [p, rl, dl, wl] H H4 ∧ TK H3 H4) ?_ ?_ ?_
    · exact ⟨none, as3, rfl, p3, w3, ht', i3, k3, TK.refl _⟩
    · rintro i σ H4 hi ⟨y4, as4, rfl, p4, w4, l4, i4, k4, t4⟩
      have ek : (0 + ((ps.length : Nat) : Int) - 1 + ((i : Nat) : Int) * -1) = ((ps.length - 1 - i : Nat) : Int) := by omega
      rw [ek]
      have hlt : ps.length - 1 - i < ps.length := by omega
      have hget : (List.map (fun (p : Nat) => V.int p) ps)[ps.length - 1 - i]? = some (.int ((ps.getD (ps.length - 1 - i) 0 : Nat) : Int)) := by
        rw [List.getElem?_map, List.getD_eq_getElem?_getD, List.getElem?_eq_getElem hlt]; rfl
      have hb4 := t4 _ _ hb3
      have hpq4 := t4 _ _ hpq3
      obtain ⟨⟨dx4, o1⟩, o2, o3⟩ := id p4
      refine ⟨.ref wl, rfl, .inl ⟨rfl, _, SqL.of w4⟩, .ref b, rfl, b, _, 2, .ref pq, rfl, rfl, SqT.of hb4, atI_nat (j := 2) rfl, _, rfl, pq, _, _, _, rfl, rfl, SqT.of hpq4, atI_nat hget, by show 2 ≤ sizeLine; decide, fun t5 n5 => ?_⟩
      have s5 : Same H4 (upd H4 t5 (.tup [.str "node", .int ((ps.getD (ps.length - 1 - i) 0 : Nat) : Int)])) := same_upd n5
      have h5 : (upd H4 t5 (.tup [.str "node", .int ((ps.getD (ps.length - 1 - i) 0 : Nat) : Int)])) t5 = some (.tup [.str "node", .int ((ps.getD (ps.length - 1 - i) 0 : Nat) : Int)]) := upd_same
      refine ⟨wl, _, _, rfl, rfl, s5 _ _ w4, by rw [List.length_map]; rw [sizeLine_eq]; omega, ?_⟩
      have emap5 : as4.map V.ref ++ [V.ref t5] = (as4 ++ [t5]).map V.ref := by rw [List.map_append]; rfl
      rw [emap5]
      have t6 : TK H4 (upd (upd H4 t5 (.tup [.str "node", .int ((ps.getD (ps.length - 1 - i) 0 : Nat) : Int)])) wl (.lst ((as4 ++ [t5]).map V.ref))) := (TK.of s5).trans fun c xs e => (upd_ne (ne_of e (s5 _ _ w4) (by intro z; cases z))).trans e
      have w6 : (upd (upd H4 t5 (.tup [.str "node", .int ((ps.getD (ps.length - 1 - i) 0 : Nat) : Int)])) wl (.lst ((as4 ++ [t5]).map V.ref))) wl = some (.lst ((as4 ++ [t5]).map V.ref)) := upd_same
      have i6 : ItsV (upd (upd H4 t5 (.tup [.str "node", .int ((ps.getD (ps.length - 1 - i) 0 : Nat) : Int)])) wl (.lst ((as4 ++ [t5]).map V.ref))) (as4 ++ [t5]) ((s2.W ++ .fin n :: kidsN ps i) ++ [.node (ps.getD (ps.length - 1 - i) 0)]) :=
        (i4.keep t6).snoc ((upd_ne (ne_of h5 (s5 _ _ w4) (by intro z; cases z))).trans h5)
      have k6 : KeepB [p, rl, dl, wl] H (upd (upd H4 t5 (.tup [.str "node", .int ((ps.getD (ps.length - 1 - i) 0 : Nat) : Int)])) wl (.lst ((as4 ++ [t5]).map V.ref))) := (k4.trans (KeepB.of s5)).trans (KeepB.put (by simp))
      have p6 : PrV C (upd (upd H4 t5 (.tup [.str "node", .int ((ps.getD (ps.length - 1 - i) 0 : Nat) : Int)])) wl (.lst ((as4 ++ [t5]).map V.ref))) p g rl dl s2 := ⟨⟨dx4, (upd_ne npw).trans (s5 _ _ o1)⟩, (upd_ne nwr.symm).trans (s5 _ _ o2), (upd_ne nwd.symm).trans (s5 _ _ o3)⟩
      have l6 : (as4 ++ [t5]).length ≤ 300001 + 2 * i + 1 := by rw [List.length_append, List.length_singleton]; omega
      generalize upd (upd H4 t5 (.tup [.str "node", .int ((ps.getD (ps.length - 1 - i) 0 : Nat) : Int)])) wl (.lst ((as4 ++ [t5]).map V.ref)) = H6 at t6 w6 i6 k6 p6
      generalize as4 ++ [t5] = as6 at w6 i6 l6
      obtain ⟨⟨dx6, u1⟩, u2, u3⟩ := id p6
      refine ⟨_, rfl, _, _, rfl, rfl, _, rfl, ite2 (fun e => ?_) (fun e => ?_)⟩
      · have e1 : 0 < ps.length - 1 - i := by
          have := of_decide_eq_true e
          omega
        refine ⟨.ref wl, rfl, .inl ⟨rfl, _, SqL.of w6⟩, by show 2 ≤ sizeLine; decide, fun t7 n7 => ?_⟩
        have s7 : Same H6 (upd H6 t7 (.tup [.str "text", .str " "])) := same_upd n7
        have h7 : (upd H6 t7 (.tup [.str "text", .str " "])) t7 = some (.tup [.str "text", .str " "]) := upd_same
        refine ⟨wl, _, _, rfl, rfl, s7 _ _ w6, by rw [List.length_map]; rw [sizeLine_eq]; omega, ?_⟩
        have emap7 : as6.map V.ref ++ [V.ref t7] = (as6 ++ [t7]).map V.ref := by rw [List.map_append]; rfl
        rw [emap7]
        have t8 : TK H6 (upd (upd H6 t7 (.tup [.str "text", .str " "])) wl (.lst ((as6 ++ [t7]).map V.ref))) := (TK.of s7).trans fun c xs e => (upd_ne (ne_of e (s7 _ _ w6) (by intro z; cases z))).trans e
        refine ⟨_, as6 ++ [t7], rfl, ⟨⟨dx6, (upd_ne npw).trans (s7 _ _ u1)⟩, (upd_ne nwr.symm).trans (s7 _ _ u2), (upd_ne nwd.symm).trans (s7 _ _ u3)⟩, upd_same, by rw [List.length_append, List.length_singleton]; omega, ?_, (k6.trans (KeepB.of s7)).trans (KeepB.put (by simp)), (t4.trans t6).trans t8⟩
        have z := (i6.keep t8).snoc (x := .sp) ((upd_ne (ne_of h7 (s7 _ _ w6) (by intro z; cases z))).trans h7)
        have ez : s2.W ++ .fin n :: kidsN ps (i + 1) = ((s2.W ++ .fin n :: kidsN ps i) ++ [.node (ps.getD (ps.length - 1 - i) 0)]) ++ [.sp] := by
          show s2.W ++ .fin n :: (kidsN ps i ++ (.node (ps.getD (ps.length - 1 - i) 0) :: if 0 < ps.length - 1 - i then [.sp] else [])) = _
          rw [if_pos e1]; simp
        rw [ez]
        exact z
      · have e1 : ¬ 0 < ps.length - 1 - i := fun z => e (decide_eq_true (by omega))
        refine ⟨_, as6, rfl, p6, w6, by omega, ?_, k6, t4.trans t6⟩
        have ez : s2.W ++ .fin n :: kidsN ps (i + 1) = (s2.W ++ .fin n :: kidsN ps i) ++ [.node (ps.getD (ps.length - 1 - i) 0)] := by
          show s2.W ++ .fin n :: (kidsN ps i ++ (.node (ps.getD (ps.length - 1 - i) 0) :: if 0 < ps.length - 1 - i then [.sp] else [])) = _
          rw [if_neg e1]; simp
        rw [ez]
        exact i6
    · rintro σ H4 ⟨y4, as4, rfl, p4, w4, l4, i4, k4, t4⟩
      exact q { s2 with W := s2.W ++ .fin n :: kidsN ps ps.length } H4 as4 (by rw [hpb, e2]; rfl) (p4.rest rfl rfl rfl) w4 i4 k4
end
end LwW
set_option maxHeartbeats 4000000
namespace LwW
open PySem PySem.Spec PyProof.Rows L2 LwR
theorem scPW : FnScope ["self", "waiting", "word", "what"] ["self"] (defScope sPW) := ⟨rfl, rfl, rfl, by decide +kernel, rfl, by decide +kernel, by decide +kernel⟩
theorem scGT : FnScope ["graph", "text"] ["graph"] (defScope sGT) := ⟨rfl, rfl, rfl, by decide +kernel, rfl, by decide +kernel, by decide +kernel⟩
theorem KeepB.news {S T : List Addr} {H H1 H2 : Hp} (a : KeepB S H H1) (b : KeepB T H1 H2) (hT : ∀ x ∈ T, x ∈ S ∨ H x = none) : KeepB S H H2 := fun c o n h => b c o (fun z => by
  rcases hT c z with y | y
  · exact n y
  · rw [y] at h; cases h) (a c o n h)
theorem pstep_of {L : Gr} {s : PSt} {x : It} (h : s.W.getLast? = some x) : pstep L s = pact L { s with W := s.W.dropLast } x := by
  unfold pstep
  rw [h]
def WrW (C : Addr) (L : Gr) (H : Hp) (p g rl dl wl : Addr) (m : Nat) (σ : L2.St) (H4 : Hp) : Prop :=
  ∃ (y2 y3 : Option V) (s : PSt) (as : List Addr), σ = [some (.ref p), some (.ref wl), y2, y3] ∧ PInv L m s ∧ Lw.Reach (pstep L) p0 s ∧ PrV C H4 p g rl dl s ∧ H4 wl = some (.lst (as.map V.ref)) ∧ ItsV H4 as s.W ∧ KeepB [p, rl, dl] H H4
section
variable {P : Program} {w : World} {K : PySem.W.Frag} {mg : Str → Option Value} {base : Heap} {C X : Addr}
def spPW (C X : Addr) : Sp := fun vs H Q E => ∃ (p g rl dl : Addr) (L : Gr), vs = [.ref p] ∧ PrV C H p g rl dl p0 ∧ GrV H g L ∧ Gok L ∧
  (∀ s H', Lw.Reach (pstep L) p0 s → pstep L s = none → s.W = [] → total s.rows ≤ 20100 → s.rows.length ≤ 300000 → KeepB [p, rl, dl] H H' → Q (.str (Txt.join ("" : Str) s.rows)) H') ∧
  (∀ s H', Lw.Reach (pstep L) p0 s → pstep L s = none → s.W ≠ [] → KeepB [p, rl, dl] H H' → E (.ref X) none H')
theorem ok_pw {f fP fR fB fL : Addr} {fd fdP fdR fdB fdL : FuncData} {k : Nat} (F : Fun K "write" "Printer.write" sPW f fd) (T : PrT K mg C)
    (mP : Meth K C "put" fP) (GP : FnOk P w K mg base (L2.CX P w) (k + 1) fP fdP ["self", "text"] (spPP C X)) (bP : Binds K fdP ["self", "text"] [])
    (mR : Meth K C "refer" fR) (GR : FnOk P w K mg base (L2.CX P w) (k + 2) fR fdR ["self", "at"] (spPR C X)) (bR : Binds K fdR ["self", "at"] [])
    (mB : Meth K C "begin" fB) (GB : FnOk P w K mg base (L2.CX P w) (k + 2) fB fdB ["self", "at", "waiting"] (spPB C X)) (bB : Binds K fdB ["self", "at", "waiting"] [])
    (GL : FnOk P w K mg base CX0 (k + 1) fL fdL ["node"] spLeaf) (kL : PySem.W.keepIn K (.ref fL) = true) (bL : Binds K fdL ["node"] []) (gL : mg "leaf_text" = some (.ref fL)) :
    FnOk P w K mg base (L2.CX P w) (k + 3) f fd ["self"] (spPW C X) := by
  refine F.okX scPW (fun vs H Q E h => ?_) (fun cdv A outer s0 H vs Q E hr h => ?_)
  · obtain ⟨p, g, rl, dl, L, rfl, _⟩ := h
    rfl
  · obtain ⟨p, g, rl, dl, L, rfl, hp, hG, ok, q, qx⟩ := h
    have hu := hu_of hr
    have hr1 : Room (k + 1) (A.deeper (envOfC "Printer.write" (defScope sPW) s0.heap.objs.size f cdv)) := hr.mono (by omega)
    refine ⟨_, pss_cons (ps_set (i := 1) scPW.nd rfl (.inl rfl) (pe_lst (pa_cons (pe_tup (pa_cons pe_str (pa_cons pe_int pa_nil))) pa_nil)))
      (pss_cons (ps_while (passes_of rfl) (pt_truth (pv 1) (by intro _; rfl))
        (pss_cons (ps_asg (pe_bm0 PySem.F.plainAttrs_list PySem.F.slot_list_pop PySem.F.type_list_pop mt_pop (pv 1)) (pg_tup rfl (pgs_cons (pg_name (i := 2) scPW.nd rfl (.inl rfl)) (pgs_cons (pg_name (i := 3) scPW.nd rfl (.inl rfl)) pgs_nil))))
        (pss_one (ps_if (pt_cmpR op_eq (pv 2) pe_str (nomark _))
          (pss_one (ps_expr (pe_meth (pv 0) T.cl mP GP hr1 bP .nil (passes_call (takes_of rfl rfl rfl rfl) (fun _ _ _ _ h => h)) (pa_cons (pv 3) pa_nil))))
          (pss_one (ps_if (pt_cmpR op_eq (pv 2) pe_str (nomark _))
            (pss_cons (ps_expr (pe_meth (pv 0) T.cl mP GP hr1 bP .nil (passes_call (takes_of rfl rfl rfl rfl) (fun _ _ _ _ h => h)) (pa_cons pe_str pa_nil)))
              (pss_one (ps_ddel (pe_fld (pv 0) rfl) (pv 3))))
            (pss_one (ps_if (pt_cmp (pc_din hu (pv 3) (pe_fld (pv 0) rfl)))
              (pss_one (ps_expr (pe_meth (pv 0) T.cl mR GR hr bR .nil (passes_call (takes_of rfl rfl rfl rfl) (fun _ _ _ _ h => h)) (pa_cons (pv 3) pa_nil))))
              (pss_one (ps_if (pt_cmpR op_ne (pe_ix ix_tup (pe_ix ix_tup (pe_fld (pv 0) rfl) (pv 3) (fun _ _ => rfl)) pe_int (fun _ _ => rfl)) pe_str (nomark _))
                (pss_one (ps_expr (pe_meth (pv 0) T.cl mP GP hr1 bP .nil (passes_call (takes_of rfl rfl rfl rfl) (fun _ _ _ _ h => h)) (pa_cons (pe_call GL hr1 (by rfl) gL kL bL .nil pass0 (pa_cons (pe_ix ix_tup (pe_fld (pv 0) rfl) (pv 3) (fun _ _ => rfl)) pa_nil)) pa_nil))))
                (pss_one (ps_expr (pe_meth (pv 0) T.cl mB GB hr bB .nil (passes_call (takes_of rfl rfl rfl rfl) (fun _ _ _ _ h => h)) (pa_cons (pv 3) (pa_cons (pv 1) pa_nil)))))))))))))))
      (pss_one (ps_ret (pe_join pe_str (pe_fld (pv 0) rfl))))), ?_⟩
    obtain ⟨⟨dx, h1⟩, h2, h3⟩ := id hp
    obtain ⟨ls, hg, hls⟩ := hG
    have npr : p ≠ rl := ne_of h1 h2 (by intro z; cases z)
    have npd : p ≠ dl := ne_of h1 h3 (by intro z; cases z)
    have nrd : rl ≠ dl := ne_of h2 h3 (by intro z; cases z)
    have nT : ∀ a ∈ [p, rl, dl], ∃ o, H a = some o ∧ ∀ xs, o ≠ .tup xs := fun a ha => by
      rcases List.mem_cons.mp ha with z | z
      · exact ⟨_, by rw [z]; exact h1, fun xs z => by cases z⟩
      rcases List.mem_cons.mp z with z | z
      · exact ⟨_, by rw [z]; exact h2, fun xs z => by cases z⟩
      · exact ⟨_, by rw [List.mem_singleton.mp z]; exact h3, fun xs z => by cases z⟩
    have hpos : 0 < L.length := ok.ok.pos
    refine ⟨by show 2 ≤ sizeLine; decide, fun t nt => ?_⟩
    have st : Same H (upd H t (.tup [.str "node", .int 0])) := same_upd nt
    have ht : (upd H t (.tup [.str "node", .int 0])) t = some (.tup [.str "node", .int 0]) := upd_same
    generalize upd H t (.tup [.str "node", .int 0]) = H1 at st ht
    refine ⟨by show 1 ≤ sizeLine; decide, fun wl nwl => ?_⟩
    have nwl0 : H wl = none := st.free nwl
    have npw : p ≠ wl := ne_of_none h1 nwl0
    have nrw : rl ≠ wl := ne_of_none h2 nwl0
    have ndw : dl ≠ wl := ne_of_none h3 nwl0
    have ngw : ∀ {c o}, H c = some o → c ≠ wl := fun e => ne_of_none e nwl0
    have s2 : Same H (upd H1 wl (.lst [.ref t])) := samePut st nwl0
    have hwl : (upd H1 wl (.lst [.ref t])) wl = some (.lst ([t].map V.ref)) := upd_same
    have ht2 : (upd H1 wl (.lst [.ref t])) t = some (.tup (itV (.node 0))) := (upd_ne (ne_of_none ht nwl)).trans ht
    refine ⟨WrW C L H p g rl dl wl, ⟨_, none, none, p0, [t], rfl, p0_inv hpos, .refl _, hp.keep s2, hwl, ⟨rfl, fun i b x e e2 => ?_⟩, KeepB.of s2⟩, fun m σ H4 hW => ?_⟩
    · have hi : i = 0 := by
        have := (List.getElem?_eq_some_iff.mp e).1
        rw [List.length_singleton] at this; omega
      subst hi
      cases e; cases e2
      exact ht2
    obtain ⟨y2, y3, s, as, rfl, I, hR, hp4, hwl4, hI4, k4⟩ := hW
    have t04 : TK H H4 := k4.tk nT
    refine ⟨.ref wl, rfl, _, .inl ⟨_, SqL.of hwl4, rfl⟩, ite2 (fun e => ?_) (fun e => ?_)⟩
    ·
      obtain ⟨as', b, rfl⟩ : ∃ as' b, as = as' ++ [b] := by
        rcases List.eq_nil_or_concat as with h | ⟨as', b, h⟩
        · subst h; exact absurd e (by simp)
        · exact ⟨as', b, by rw [h, List.concat_eq_append]⟩
      have hlen := hI4.len
      rw [List.length_append, List.length_singleton] at hlen
      obtain ⟨x, hx⟩ : ∃ x, s.W.getLast? = some x := by
        cases e : s.W.getLast? with
        | some x => exact ⟨x, rfl⟩
        | none => rw [List.getLast?_eq_none_iff.mp e] at hlen; simp at hlen
      obtain ⟨eW, efin⟩ := I.popped hx
      have hdl : s.W.dropLast.length = as'.length := by
        have := congrArg List.length eW
        rw [List.length_append, List.length_singleton] at this; omega
      have hbx : H4 b = some (.tup (itV x)) := hI4.item as'.length b x (by rw [List.getElem?_append_right (by omega)]; simp) (by rw [eW, ← hdl, List.getElem?_append_right (by omega)]; simp)
      have hIp : ItsV H4 as' s.W.dropLast := ⟨hdl.symm, fun i c y e1 e2 => by
        have hi := (List.getElem?_eq_some_iff.mp e1).1
        exact hI4.item i c y (by rw [List.getElem?_append_left hi]; exact e1) (by rw [eW, List.getElem?_append_left (by omega)]; exact e2)⟩
      have hne : s.W ≠ [] := fun z => by rw [z] at hlen; simp at hlen
      have hst := pstep_of (L := L) hx
      have emap : (as' ++ [b]).map V.ref = as'.map V.ref ++ [V.ref b] := by rw [List.map_append]; rfl
      rw [emap] at hwl4
      refine ⟨_, fun σ' H' h => h, .ref wl, rfl, .inl ⟨rfl, _, SqL.of hwl4⟩, wl, _, .ref b, rfl, rfl, hwl4, ?_, ?_⟩
      · rw [List.length_append]; simp
      rw [List.dropLast_concat]
      have t5 : TK H4 (upd H4 wl (.lst (as'.map V.ref))) := sameBut_upd.tk hwl4 (fun xs z => nomatch z)
      have w5 : (upd H4 wl (.lst (as'.map V.ref))) wl = some (.lst (as'.map V.ref)) := upd_same
      have p5 : PrV C (upd H4 wl (.lst (as'.map V.ref))) p g rl dl { s with W := s.W.dropLast } := by
        obtain ⟨⟨dx4, o1⟩, o2, o3⟩ := hp4
        exact ⟨⟨dx4, (upd_ne npw).trans o1⟩, (upd_ne nrw).trans o2, (upd_ne ndw).trans o3⟩
      have k5 : KeepB [p, rl, dl] H (upd H4 wl (.lst (as'.map V.ref))) := fun c o n e => (upd_ne (ngw e)).trans (k4 c o n e)
      generalize upd H4 wl (.lst (as'.map V.ref)) = H5 at t5 w5 p5 k5
      have hb5 := t5 _ _ hbx
      have hI5 := hIp.keep t5
      have t05 : TK H H5 := t04.trans t5
      obtain ⟨⟨dx5, o1⟩, o2, o3⟩ := id p5
      have no : ∀ (m : Str), ¬ m = "graph" → ¬ m = "rows" → ¬ m = "size" → ¬ m = "open_at" → (pf g rl dl ((s.size : Nat) : Int)).lookup m = none := fun m a b c d => pf_no _ _ _ _ a b c d
      have mI := I.meas
      have rI := I.rlen
      have kI := I.klen
      have fin : ∀ (s' : PSt) (H6 : Hp) (m' : Nat) (y2 y3 : Option V) (as6 : List Addr), m' < m → PInv L m' s' → pstep L s = some s' → PrV C H6 p g rl dl s' → H6 wl = some (.lst (as6.map V.ref)) → ItsV H6 as6 s'.W → KeepB [p, rl, dl] H H6 →
          ∃ m', m' < m ∧ WrW C L H p g rl dl wl m' [some (.ref p), some (.ref wl), y2, y3] H6 := fun s' H6 m' y2 y3 as6 a b c d e f g => ⟨m', a, y2, y3, s', as6, rfl, b, hR.snoc c, d, e, f, g⟩
      have tkP : ∀ H6, KeepB [p, rl] H5 H6 → TK H5 H6 := fun H6 k => k.tk (fun a ha => by
        rcases List.mem_cons.mp ha with z | z
        · exact ⟨_, by rw [z]; exact o1, fun xs z => by cases z⟩
        · exact ⟨_, by rw [List.mem_singleton.mp z]; exact o2, fun xs z => by cases z⟩)
      have wlP : ∀ H6, KeepB [p, rl] H5 H6 → H6 wl = some (.lst (as'.map V.ref)) := fun H6 k => k _ _ (by simp [npw.symm, nrw.symm]) w5
      have kP : ∀ H6, KeepB [p, rl] H5 H6 → KeepB [p, rl, dl] H H6 := fun H6 k => k5.trans (k.mono (by simp))
      cases x with
      | sp =>
        refine ⟨b, _, rfl, SqT.of hb5, rfl, _, _, rfl, _, _, rfl, rfl, ?_⟩
        refine ⟨_, rfl, rfl, _, rfl, ?_⟩
        refine ⟨_, rfl, p, dx5, _, rfl, o1, no _ (by decide +kernel) (by decide +kernel) (by decide +kernel) (by decide +kernel), _, rfl, ?_⟩
        refine ⟨p, g, rl, dl, _, (" " : Str), rfl, p5, by show 1 ≤ 100000; decide, by show s.rows.length < 300000; omega, fun s6 H6 e6 p6 k6 => ?_, fun H6 e6 k6 => qx s H6 hR (by rw [hst]; exact e6) hne (kP _ k6)⟩
        obtain ⟨m', hm', J⟩ := I.put hx e6
        have hW6 : s6.W = s.W.dropLast := by obtain ⟨_, rfl⟩ := pput_some e6; rfl
        exact fin s6 H6 m' _ _ as' (by omega) J (by rw [hst]; exact e6) p6 (wlP _ k6) (by rw [hW6]; exact hI5.keep (tkP _ k6)) (kP _ k6)
      | fin n =>
        refine ⟨b, _, rfl, SqT.of hb5, rfl, _, _, rfl, _, _, rfl, rfl, ?_⟩
        refine ⟨_, rfl, rfl, _, rfl, _, rfl, rfl, _, rfl, ?_⟩
        refine ⟨_, rfl, p, dx5, _, rfl, o1, no _ (by decide +kernel) (by decide +kernel) (by decide +kernel) (by decide +kernel), ?_⟩
        refine ⟨p, g, rl, dl, _, (")" : Str), rfl, p5, by show 1 ≤ 100000; decide, by show s.rows.length < 300000; omega, fun s6 H6 e6 p6 k6 => ?_, fun H6 e6 k6 => qx s H6 hR (by rw [hst]; show (pput _ _).map _ = none; rw [e6]; rfl) hne (kP _ k6)⟩
        obtain ⟨m', hm', J⟩ := I.close hx e6
        have hW6 : s6.W = s.W.dropLast := by obtain ⟨_, rfl⟩ := pput_some e6; rfl
        have hK6 : s6.kvs = s.kvs := by obtain ⟨_, rfl⟩ := pput_some e6; rfl
        obtain ⟨⟨dx6, u1⟩, u2, u3⟩ := id p6
        have hop : (valV s6.kvs (nk n)).isSome = true := by
          rw [hK6]
          exact I.open_ n (by rw [efin]; exact List.mem_append_right _ (by show n ∈ [n]; exact List.mem_cons_self))
        refine ⟨_, rfl, p, C, dx6, _, _, rfl, u1, T.cl, T.nO, pf_open _ _ _ _, _, rfl, dl, _, nk n, rfl, u3, rfl, hop, ?_⟩
        have tk6 := tkP _ k6
        refine fin { s6 with kvs := dropK s6.kvs (nk n) } _ m' _ _ as' hm' J (by rw [hst]; show (pput _ _).map _ = _; rw [e6]; rfl) ⟨⟨dx6, (upd_ne npd).trans u1⟩, (upd_ne nrd).trans u2, upd_same⟩ ((upd_ne ndw.symm).trans (wlP _ k6)) ?_ ((kP _ k6).trans (KeepB.put (by simp)))
        show ItsV _ as' s6.W
        rw [hW6]
        exact (hI5.keep tk6).keep (sameBut_upd.tk u3 (fun xs z => nomatch z))
      | node n =>
        have hn : n < L.length := I.lt n (List.mem_of_getLast? hx)
        have few := ok.few
        refine ⟨b, _, rfl, SqT.of hb5, rfl, _, _, rfl, _, _, rfl, rfl, ?_⟩
        refine ⟨_, rfl, rfl, _, rfl, _, rfl, rfl, _, rfl, ?_⟩
        refine ⟨_, rfl, _, rfl, p, C, dx5, _, _, rfl, o1, T.cl, T.nO, pf_open _ _ _ _, dl, _, rfl, DGet.k (k := nk n) o3, _, rfl, ?_⟩
        have hkv5 : KvOk { s with W := s.W.dropLast } := I.kv
        by_cases ho : (valV s.kvs (nk n)).isSome = true
        · refine ifT ho ?_
          refine ⟨_, rfl, p, dx5, _, rfl, o1, no _ (by decide +kernel) (by decide +kernel) (by decide +kernel) (by decide +kernel), _, rfl, ?_⟩
          have hact : pstep L s = prefer { s with W := s.W.dropLast } n := by
            rw [hst]
            exact if_pos ho
          refine ⟨p, g, rl, dl, _, n, rfl, p5, ho, hkv5, by omega, I.tot, by show s.rows.length < 300000; omega, fun s6 H6 e6 p6 k6 => ?_, fun H6 e6 k6 => qx s H6 hR (by rw [hact]; exact e6) hne (kP _ k6)⟩
          obtain ⟨s1, e1, rfl⟩ : ∃ s1, pput { s with W := s.W.dropLast } (("@" : Str) ++ nstr n) = some s1 ∧ preferOf s1 n = s6 := by
            unfold prefer at e6
            cases z : pput { s with W := s.W.dropLast } (("@" : Str) ++ nstr n) with
            | none => rw [z] at e6; cases e6
            | some s1 => rw [z] at e6; exact ⟨s1, rfl, Option.some.inj e6⟩
          obtain ⟨m', hm', J⟩ := I.refer few hx ho e1
          have hW6 : (preferOf s1 n).W = s.W.dropLast := by
            have : s1.W = s.W.dropLast := by obtain ⟨_, rfl⟩ := pput_some e1; rfl
            rw [← this]; unfold preferOf
            by_cases c : Txt.startswith (s1.rows.getD (place s1.kvs n) "") (nstr n ++ ("=" : Str)) = true
            · rw [if_pos c]
            · rw [if_neg c]
          exact fin _ H6 m' _ _ as' hm' J (by rw [hact]; exact e6) p6 (wlP _ k6) (by rw [hW6]; exact hI5.keep (tkP _ k6)) (kP _ k6)
        · refine ifF (Bool.eq_false_iff.mpr ho) ?_
          have hon : valV s.kvs (nk n) = none := by
            cases z : valV s.kvs (nk n) with
            | none => rfl
            | some v => rw [z] at ho; exact absurd rfl ho
          obtain ⟨c, hc⟩ : ∃ c, ls[n]? = some c := ⟨_, List.getElem?_eq_getElem (by rw [hls.len]; exact hn)⟩
          have hnd := (hls.node n c hc).keep t05
          obtain ⟨z, hi, hq⟩ := hnd.items
          have hg5 := t05 _ _ hg
          refine ⟨_, rfl, p, C, dx5, _, _, rfl, o1, T.cl, T.nG, pf_graph _ _ _ _, _, rfl, g, _, _, _, rfl, rfl, SqT.of hg5, atI_nat (map_ref_get hc), c, _, 0, _, rfl, rfl, SqT.of hi, atI_nat (j := 0) (items0 z _), rfl, _, rfl, ?_⟩
          by_cases hwd : word (Lw.at_ L n) = "tuple"
          · refine ifF (by rw [decide_eq_true (congrArg V.str hwd)]; rfl) ?_
            have hact : pstep L s = pbegin L { s with W := s.W.dropLast } n := by
              rw [hst]
              exact (if_neg ho).trans (if_neg (fun z => z hwd))
            refine ⟨_, rfl, p, dx5, _, rfl, o1, no _ (by decide +kernel) (by decide +kernel) (by decide +kernel) (by decide +kernel), _, rfl, _, rfl, ?_⟩
            refine ⟨p, g, rl, dl, wl, _, n, L, as', rfl, p5, ⟨ls, hg5, hls.keep t05⟩, ok, hn, hwd, w5, hI5, nrw.symm, by show s.rows.length < 300000; omega, by show s.kvs.length < 300001; omega, by show s.W.dropLast.length < 300001; omega, fun s6 H6 as6 e6 p6 w6 i6 k6 => ?_, fun H6 e6 k6 => qx s H6 hR (by rw [hact]; exact e6) hne (k5.news k6 (by simp [nwl0]))⟩
            obtain ⟨s1, e1, rfl⟩ : ∃ s1, pput { s with W := s.W.dropLast, kvs := putK s.kvs (nk n) (.int ((s.rows.length : Nat) : Int)) } (nameOf (Lw.at_ L n) ++ ("(" : Str)) = some s1 ∧ { s1 with W := s1.W ++ .fin n :: kidsN (Lw.at_ L n).parts (Lw.at_ L n).parts.length } = s6 := by
              unfold pbegin at e6
              cases z : pput { s with W := s.W.dropLast, kvs := putK s.kvs (nk n) (.int ((s.rows.length : Nat) : Int)) } (nameOf (Lw.at_ L n) ++ ("(" : Str)) with
              | none =>
                rw [z] at e6
                cases e6
              | some s1 =>
                rw [z] at e6
                exact ⟨s1, rfl, Option.some.inj e6⟩
            obtain ⟨m', hm', J⟩ := I.begin ok hx hon e1
            exact fin _ H6 m' _ _ as6 hm' J (by rw [hact]; exact e6) p6 w6 i6 (k5.news k6 (by simp [nwl0]))
          · refine ifT (by rw [decide_eq_false (fun z => hwd (V.str.inj z))]; rfl) ?_
            have hact : pstep L s = pput { s with W := s.W.dropLast } (leafT (Lw.at_ L n)) := by
              rw [hst]
              exact (if_neg ho).trans (if_pos hwd)
            refine ⟨_, rfl, p, dx5, _, rfl, o1, no _ (by decide +kernel) (by decide +kernel) (by decide +kernel) (by decide +kernel), ?_⟩
            refine ⟨_, rfl, p, C, dx5, _, _, rfl, o1, T.cl, T.nG, pf_graph _ _ _ _, _, rfl, g, _, _, _, rfl, rfl, SqT.of hg5, atI_nat (map_ref_get hc), c, Lw.at_ L n, rfl, hnd, ok.nodes n hn, hwd, ?_⟩
            have hll : (leafT (Lw.at_ L n)).length ≤ 100000 := by
              have := ok.nodes n hn
              cases z : Lw.at_ L n with
              | int i =>
                rw [z] at this
                have := nstr_len this
                show (nstr i).length ≤ _; omega
              | atom t =>
                rw [z] at this
                have := this.2.1
                show t.length ≤ _; omega
              | var i =>
                rw [z] at this
                have := nstr_len this
                show (("_" : Str) ++ nstr i).length ≤ _
                rw [Str.length_append]; show 1 + _ ≤ _; omega
              | name t i =>
                rw [z] at this
                have a1 := nstr_len this.2
                have a2 := this.1.2.1
                show ((("<" : Str) ++ t ++ (" " : Str) ++ nstr i) ++ (">" : Str)).length ≤ _
                rw [Str.length_append, Str.length_append, Str.length_append, Str.length_append]
                show 1 + t.length + 1 + _ + 1 ≤ _; omega
              | tup t i => exact Nat.zero_le _
            refine ⟨p, g, rl, dl, _, _, rfl, p5, hll, by show s.rows.length < 300000; omega, fun s6 H6 e6 p6 k6 => ?_, fun H6 e6 k6 => qx s H6 hR (by rw [hact]; exact e6) hne (kP _ k6)⟩
            obtain ⟨m', hm', J⟩ := I.put hx e6
            have hW6 : s6.W = s.W.dropLast := by obtain ⟨_, rfl⟩ := pput_some e6; rfl
            exact fin s6 H6 m' _ _ as' (by omega) J (by rw [hact]; exact e6) p6 (wlP _ k6) (by rw [hW6]; exact hI5.keep (tkP _ k6)) (kP _ k6)
    ·
      have hW0 : s.W = [] := by
        cases as with
        | nil => exact List.eq_nil_of_length_eq_zero hI4.len.symm
        | cons b r => exact absurd rfl e
      obtain ⟨⟨dx4, o1⟩, o2, o3⟩ := hp4
      have hsm := I.small
      have hto := I.tot
      have hrl := I.rlen
      refine ⟨⟨_, rfl⟩, _, rfl, p, C, dx4, _, _, rfl, o1, T.cl, T.nR, pf_rows _ _ _ _, _, rl, s.rows, rfl, rfl, .inl (SqL.of o2), ?_, ?_⟩
      · show total s.rows + s.rows.length * 0 ≤ 16777216
        rw [hto]; omega
      · refine q s H4 hR ?_ hW0 (by rw [hto]; exact hsm) (by omega) k4
        unfold pstep
        rw [hW0]; rfl
end
end LwW
set_option maxHeartbeats 4000000
namespace LwW
open PySem PySem.Spec PyProof.Rows L2 LwR
theorem abase_callA {id attr : Str} {p pos : Pos} {es : List Expr} {env : Env} {whole : Sem Value} (h : (id != ("super" : Str)) = true) : attributeBase (.Call (.Name id p) es [] pos) attr env whole = whole := by
  cases es with
  | nil => exact abase_call h
  | cons e es =>
    unfold attributeBase
    first
      | (simp only [h, Bool.true_or, if_true, bind_pure]; done)
      | (rw [h]; simp only [Bool.true_or, if_true, bind_pure]; done)
      | (simp [h]; done)
      | rfl
theorem join_len : ∀ rows : List Str, (Str.join ("" : Str) rows).length = total rows
  | [] => rfl
  | [x] => by show x.length = ([x].map (·.length)).sum; simp
  | x :: y :: r => by
    have ih := join_len (y :: r)
    show (x ++ ("" : Str) ++ Str.join ("" : Str) (y :: r)).length = ((x :: y :: r).map (·.length)).sum
    rw [Str.length_append, Str.length_append, ih]
    unfold total
    rw [List.map_cons, List.sum_cons]
    rfl
section
variable {P : Program} {w : World} {K : PySem.W.Frag} {mg : Str → Option Value} {base : Heap} {C X : Addr}
def spGT (K : PySem.W.Frag) (X : Addr) : Sp := fun vs H Q E => ∃ (a : Addr) (G : Gr), vs = [.ref a] ∧ GrV H a G ∧ Gok G ∧
  (∀ L t H', Lw.Least G L → PFinal L (some t) → Same H H' → Q (.str t) H') ∧ (∀ L H', Lw.Least G L → PFinal L none → Same H H' → E (.ref X) none H')
theorem ok_gt {f fI fW fL : Addr} {fd fdI fdW fdL : FuncData} {k : Nat} (F : Fun K "graph_text" "graph_text" sGT f fd) (T : PrT K mg C) (M : Tm K mg X) (MK : Mk K C fI)
    (GI : FnOk P w K mg base CX0 1 fI fdI ["self", "graph"] (spPI C)) (bI : Binds K fdI ["self", "graph"] [])
    (mW : Meth K C "write" fW) (GW : FnOk P w K mg base (L2.CX P w) (k + 3) fW fdW ["self"] (spPW C X)) (bW : Binds K fdW ["self"] [])
    (GL : FnOk P w K mg base CX0 (k + 3) fL fdL ["graph"] (spLeast K)) (kL : PySem.W.keepIn K (.ref fL) = true) (bL : Binds K fdL ["graph"] []) (gL : mg "least" = some (.ref fL)) :
    FnOk P w K mg base (L2.CX P w) (k + 4) f fd ["graph"] (spGT K X) := by
  refine F.okX scGT (fun vs H Q E h => ?_) (fun cdv A outer s0 H vs Q E hr h => ?_)
  · obtain ⟨a, G, rfl, _⟩ := h
    rfl
  · obtain ⟨a, G, rfl, hG, ok, q, qx⟩ := h
    have hr1 : Room 2 (A.deeper (envOfC "graph_text" (defScope sGT) s0.heap.objs.size f cdv)) := hr.mono (by omega)
    obtain ⟨tM, gM⟩ := T.gM
    refine ⟨_, pss_cons (ps_set (i := 1) scGT.nd rfl (.inl rfl) (pe_meth0 (pe_make MK GI hr1 (by rfl) T.gC bI .nil pass0 (pa_cons (pe_call GL hr (by rfl) gL kL bL .nil pass0 (pa_cons (pv 0) pa_nil)) pa_nil)) T.cl mW GW hr bW .nil (passes_call (takes_of rfl rfl rfl rfl) (fun _ _ _ _ h => h)) (mcall_of (abase_callA (by decide)) (fun ov => rfl))))
      (pss_cons (ps_if (pt_cmpR op_gt (pe_callB call_len_str (by rfl) T.len PySem.boot_len (pa_cons (pv 1) pa_nil)) (pe_glob (v := .int 20000) rfl gM ⟨_, rfl⟩) (nomark _))
        (pss_one (ps_raise rfl (takes_of rfl rfl rfl rfl) (pmk_own PySem.F.excBase_ValueError M.xP M.gP M.kP (raises_own M.bP M.tP) rfl))) pss_nil)
      (pss_one (ps_ret (pv 1)))), ?_⟩
    refine ⟨.ref a, rfl, a, G, rfl, hG, ok, fun g L H1 s1 hL hl => ?_⟩
    have okL := least_ok ok hl
    intro p dx np ndx nex
    have npd : p ≠ dx := fun z => nex z.symm
    have s2 : Same H1 (upd (upd H1 dx (.own p)) p (.ins C dx [])) := fun b o e => by
      rw [upd_ne (ne_of_none e np), upd_ne (ne_of_none e ndx)]
      exact e
    have hp2 : (upd (upd H1 dx (.own p)) p (.ins C dx [])) p = some (.ins C dx []) := upd_same
    refine ⟨p, g, dx, rfl, hp2, fun rl dl H3 hp3 nrl ndl k3 => ⟨rfl, ?_⟩⟩
    have s13 : Same H1 H3 := fun b o e => k3 b o (by simpa using ne_of_none e np) (s2 b o e)
    have nrl1 : H1 rl = none := s2.free nrl
    have ndl1 : H1 dl = none := s2.free ndl
    obtain ⟨⟨dx3, o1⟩, o2, o3⟩ := id hp3
    have fin4 : ∀ H4, KeepB [p, rl, dl] H3 H4 → Same H H4 := fun H4 k b o e => by
      have e1 := s1 b o e
      refine k b o ?_ (s13 b o e1)
      simp only [List.mem_cons, List.not_mem_nil, or_false, not_or]
      exact ⟨ne_of_none e1 np, ne_of_none e1 nrl1, ne_of_none e1 ndl1⟩
    refine ⟨p, dx3, _, rfl, o1, pf_no _ _ _ _ (by decide +kernel) (by decide +kernel) (by decide +kernel) (by decide +kernel), ?_⟩
    refine ⟨p, g, rl, dl, L, rfl, hp3, hL.keep (TK.of s13), okL, fun s H4 hR he hW ht hlen k4 => ?_, fun s H4 hR he hW k4 => qx L H4 hl ⟨s, hR, he, ?_⟩ (fin4 H4 k4)⟩
    · have hjl : (Txt.join ("" : Str) s.rows).length = total s.rows := by rw [TL.join_eq]; exact join_len _
      refine ⟨_, rfl, _, rfl, by rw [hjl]; exact small_sizeL (by omega), _, _, rfl, rfl, _, rfl, ite2 (fun e => ?_) (fun e => ?_)⟩
      · have e1 : 20000 < (Txt.join ("" : Str) s.rows).length := by
          have := of_decide_eq_true e
          omega
        exact qx L H4 hl ⟨s, hR, he, by unfold pres; rw [hW]; exact (if_pos e1).symm⟩ (fin4 H4 k4)
      · have e1 : ¬ 20000 < (Txt.join ("" : Str) s.rows).length := fun z => e (decide_eq_true (by omega))
        exact ⟨_, rfl, q L _ H4 hl ⟨s, hR, he, by unfold pres; rw [hW]; exact (if_neg e1).symm⟩ (fin4 H4 k4)⟩
    · unfold pres
      cases z : s.W with
      | nil => exact absurd z hW
      | cons x r => rfl
end
end LwW
set_option maxHeartbeats 4000000
namespace LwW
open PySem PySem.Spec PyProof.Rows L2 LwR
abbrev sStr : Stmt := topS 23
abbrev sDraw : Stmt := topS 24
abbrev sFar : Stmt := topS 25
abbrev sAtom : Stmt := topS 26
theorem scStr : FnScope ["_law_script", "_law_mixed", "_law_cell"] ["_law_script"] (defScope sStr) := ⟨rfl, rfl, rfl, by decide +kernel, rfl, by decide +kernel, by decide +kernel⟩
theorem scDraw : FnScope ["_law_stream_here", "_law_many", "_law_value"] ["_law_stream_here", "_law_many"] (defScope sDraw) := ⟨rfl, rfl, rfl, by decide +kernel, rfl, by decide +kernel, by decide +kernel⟩
theorem scFar : FnScope ["_law_stream_here"] ["_law_stream_here"] (defScope sFar) := ⟨rfl, rfl, rfl, by decide +kernel, rfl, by decide +kernel, by decide +kernel⟩
theorem scAtom : FnScope ["_law_stream_here", "_law_atom_here", "_law_k"] ["_law_stream_here"] (defScope sAtom) := ⟨rfl, rfl, rfl, by decide +kernel, rfl, by decide +kernel, by decide +kernel⟩
def StrV (H : Hp) (s l : Addr) : Prop := ∃ (ns : List Int) (v p x : Int), H s = some (.lst [.ref l, .int v, .int p, .int x]) ∧ H l = some (.lst (ns.map V.int)) ∧ l ≠ s ∧ ns.length ≤ 63 ∧ 0 ≤ v ∧ 0 ≤ p ∧ 0 ≤ x
theorem StrV.keep {H H' : Hp} {s l : Addr} (h : StrV H s l) (k : Same H H') : StrV H' s l := by
  obtain ⟨ns, v, p, x, h1, h2, h3⟩ := h
  exact ⟨ns, v, p, x, k _ _ h1, k _ _ h2, h3⟩
theorem StrV.tk {H H' : Hp} {s l : Addr} (h : StrV H s l) (k : SameBut s H H') : TK H H' := by
  obtain ⟨ns, v, p, x, h1, _⟩ := h
  exact k.tk h1 (fun xs z => nomatch z)
theorem StrV.some {H : Hp} {s l : Addr} (h : StrV H s l) : ∃ o, H s = Option.some o := by
  obtain ⟨ns, v, p, x, h1, _⟩ := h
  exact ⟨_, h1⟩
theorem StrV.ne {H : Hp} {s l q : Addr} (h : StrV H s l) (nq : H q = none) : s ≠ q ∧ l ≠ q := by
  obtain ⟨ns, v, p, x, h1, h2, _⟩ := h
  exact ⟨ne_of_none h1 nq, ne_of_none h2 nq⟩
theorem StrV.put {H : Hp} {s l q : Addr} {o : HO} (h : StrV H s l) (nq : H q = none) : StrV (upd H q o) s l := h.keep (same_upd nq)
theorem StrV.other {H : Hp} {s l q : Addr} {o : HO} (h : StrV H s l) (hn : s ≠ q ∧ l ≠ q) : StrV (upd H q o) s l := by
  obtain ⟨ns, v, p, x, h1, h2, h3⟩ := h
  exact ⟨ns, v, p, x, (upd_ne hn.1).trans h1, (upd_ne hn.2).trans h2, h3⟩
section
variable {P : Program} {w : World} {K : PySem.W.Frag} {mg : Str → Option Value} {base : Heap}
def spStr (K : PySem.W.Frag) : Sp := fun vs H Q _ => ∃ (a : Addr) (ns : List Int), vs = [.ref a] ∧ SqL K H a (ns.map V.int) ∧ ns.length ≤ 63 ∧ ∀ s l H', StrV H' s l → Q (.ref s) H'
theorem ok_str {f : Addr} {fd : FuncData} {k : Nat} (F : Fun K "_law_stream" "_law_stream" sStr f fd) (B : Blt mg) : FnOk P w K mg base CX0 (k + 1) f fd ["_law_script"] (spStr K) := by
  refine F.ok scStr (fun vs H Q E h => ?_) (fun cdv A outer s H vs Q E hr h => ?_)
  · obtain ⟨a, ns, rfl, _⟩ := h
    rfl
  · obtain ⟨a, ns, rfl, hS, hlen, q⟩ := h
    refine ⟨_, pss_cons (ps_set (i := 1) scStr.nd rfl (.inl rfl) pe_int)
      (pss_cons (ps_for PassesOwn.never rfl (pi_list (pv 0)) (pg_name (i := 2) scStr.nd rfl (.inl rfl))
        (pss_one (ps_set (i := 1) scStr.nd rfl (.inl rfl) (pe_op op_mod (pe_callTy call_int1 (by rfl) B.int PyProof.Rows.boot_int (pa_cons (pe_op op_add (pe_op op_add (pe_op op_mul (pv 1) pe_int) (pe_op op_mod (pe_callTy call_int1 (by rfl) B.int PyProof.Rows.boot_int (pa_cons (pv 2) pa_nil)) pe_int)) pe_int) pa_nil)) pe_int))))
      (pss_one (ps_ret (pe_lst (pa_cons (pe_callTy call_list_of (by rfl) B.list PyProof.Rows.boot_list (pa_cons (pv 0) pa_nil)) (pa_cons pe_int (pa_cons pe_int (pa_cons (pv 1) pa_nil)))))))), ?_⟩
    refine ⟨_, rfl, a, rfl, ⟨_, hS⟩, for_list (K := K) (a := a) (xs := ns.map V.int) (fun i σ H' => ∃ (x : Int) (v : Option V), σ = [some (.ref a), some (.int x), v] ∧ 0 ≤ x ∧ Same H H') ?_ ?_ ?_ ?_⟩
    · exact ⟨17, none, rfl, by decide, Same.refl H⟩
    · rintro i σ H' _ ⟨x, v, rfl, _, s1⟩
      exact s1.seq hS
    · rintro i y σ H' hy ⟨x, v, rfl, hx, s1⟩
      obtain ⟨z, rfl⟩ : ∃ z, y = V.int z := by
        rw [List.getElem?_map] at hy
        cases e : ns[i]? with
        | none => rw [e] at hy; cases hy
        | some z => rw [e] at hy; exact ⟨z, (Option.some.inj hy).symm⟩
      refine ⟨_, rfl, _, _, rfl, rfl, .inr ⟨by decide, by decide⟩, _, rfl, .inl ⟨_, rfl, _, _, rfl, rfl, (by show (0 : Int) < 65521; decide), _, _, rfl, rfl, _, _, rfl, rfl, .inl ⟨_, rfl, _, _, rfl, rfl, (by show (0 : Int) < 2147483647; decide), ?_⟩⟩⟩
      exact ⟨_, _, rfl, Int.emod_nonneg _ (by decide), s1⟩
    · rintro σ H' ⟨x, v, rfl, hx, s1⟩
      refine ⟨_, rfl, a, _, rfl, .inl (s1.seq hS), fun l nl => ?_⟩
      refine ⟨_, rfl, by show 4 ≤ sizeLine; decide, fun s ns' => ?_⟩
      have nsl : l ≠ s := ne_of_none upd_same ns'
      exact q s l _ ⟨ns, 0, 0, x, upd_same, (upd_ne nsl).trans upd_same, nsl, hlen, by decide, by decide, hx⟩
def spDraw : Sp := fun vs H Q _ => ∃ (s l : Addr) (m : Int), vs = [.ref s, .int m] ∧ StrV H s l ∧ 0 < m ∧ m ≤ 10 ^ 9 ∧ ∀ (r : Int) H', 0 ≤ r → r < m → SameBut s H H' → StrV H' s l → Q (.int r) H'
theorem ok_draw {f : Addr} {fd : FuncData} {k : Nat} (F : Fun K "_law_draw" "_law_draw" sDraw f fd) (B : Blt mg) : FnOk P w K mg base CX0 (k + 1) f fd ["_law_stream_here", "_law_many"] spDraw := by
  refine F.ok scDraw (fun vs H Q E h => ?_) (fun cdv A outer s0 H vs Q E hr h => ?_)
  · obtain ⟨s, l, m, rfl, _⟩ := h
    rfl
  · obtain ⟨s, l, m, rfl, hS, m0, m9, q⟩ := h
    have e9 : (10 : Int) ^ 9 = 1000000000 := by decide
    rw [e9] at m9
    refine ⟨_, pss_cons (ps_if (PW.pt (pw_and (pt_cmpR op_eq (pe_ix ix_list (pv 0) pe_int (fun _ _ => rfl)) pe_int (nomark _)) (pw_and1 (pt_cmpR op_lt (pe_ix ix_list (pv 0) pe_int (fun _ _ => rfl)) (pe_callB call_len_seq (by rfl) B.len PySem.boot_len (pa_cons (pe_ix ix_list (pv 0) pe_int (fun _ _ => rfl)) pa_nil)) (nomark _)))))
        (pss_cons (ps_asg (pe_callB call_abs (by rfl) B.abs PyProof.Rows.boot_abs (pa_cons (pe_callTy call_int1 (by rfl) B.int PyProof.Rows.boot_int (pa_cons (pe_ix ix_list (pe_ix ix_list (pv 0) pe_int (fun _ _ => rfl)) (pe_ix ix_list (pv 0) pe_int (fun _ _ => rfl)) (fun _ _ => rfl)) pa_nil)) pa_nil)) (pg_sub (pv 0) pe_int set_list))
        (pss_one (ps_asg (pe_op op_add (pe_ix ix_list (pv 0) pe_int (fun _ _ => rfl)) pe_int) (pg_sub (pv 0) pe_int set_list)))) pss_nil)
      (pss_cons (ps_if (pt_cmpR op_eq (pe_ix ix_list (pv 0) pe_int (fun _ _ => rfl)) pe_int (nomark _))
        (pss_cons (ps_asg (pe_op op_mod (pe_callTy call_int1 (by rfl) B.int PyProof.Rows.boot_int (pa_cons (pe_op op_add (pe_op op_mul (pe_ix ix_list (pv 0) pe_int (fun _ _ => rfl)) pe_int) pe_int) pa_nil)) pe_int) (pg_sub (pv 0) pe_int set_list))
        (pss_one (ps_ret (pe_op op_mod (pe_callTy call_int1 (by rfl) B.int PyProof.Rows.boot_int (pa_cons (pe_op op_fdiv (pe_ix ix_list (pv 0) pe_int (fun _ _ => rfl)) pe_int) pa_nil)) (pv 1))))) pss_nil)
      (pss_cons (ps_set (i := 2) scDraw.nd rfl (.inl rfl) (pe_op op_mod (pe_callTy call_int1 (by rfl) B.int PyProof.Rows.boot_int (pa_cons (pe_ix ix_list (pv 0) pe_int (fun _ _ => rfl)) pa_nil)) (pv 1)))
      (pss_cons (ps_asg (pe_op op_fdivN (pe_ix ix_list (pv 0) pe_int (fun _ _ => rfl)) (pv 1)) (pg_sub (pv 0) pe_int set_list))
      (pss_one (ps_ret (pv 2)))))), ?_⟩
    have fin : ∀ (ns : List Int) (v p x : Int) (H1 : Hp), H1 s = some (.lst [.ref l, .int v, .int p, .int x]) → H1 l = some (.lst (ns.map V.int)) → l ≠ s → ns.length ≤ 63 → 0 ≤ v → 0 ≤ p → 0 ≤ x → SameBut s H H1 → ∀ (v' p' x' : Int), 0 ≤ v' → 0 ≤ p' → 0 ≤ x' → ∀ r : Int, 0 ≤ r → r < m → Q (.int r) (upd H1 s (.lst [.ref l, .int v', .int p', .int x'])) :=
      fun ns v p x H1 h1 h2 nl hn hv hp hx sb v' p' x' hv' hp' hx' r r0 rm => q r _ r0 rm (sb.trans sameBut_upd) ⟨ns, v', p', x', upd_same, (upd_ne nl).trans h2, nl, hn, hv', hp', hx'⟩
    obtain ⟨ns, v, p, x, h1, h2, nl, hn, hv, hp, hx⟩ := hS
    refine ⟨_, rfl, s, _, 1, _, rfl, rfl, SqL.of h1, atI_nat (j := 1) rfl, rfl, _, rfl, ite2 (fun e0 => ?_) (fun e0 => ?_)⟩
    · refine ⟨_, rfl, s, _, 2, _, rfl, rfl, SqL.of h1, atI_nat (j := 2) rfl, _, rfl, s, _, 0, _, rfl, rfl, SqL.of h1, atI_nat (j := 0) rfl, l, _, rfl, .inl (SqL.of h2), _, _, rfl, rfl, _, rfl, ?_⟩
      rw [List.length_map]
      refine ite2 (fun e1 => ?_) (fun e1 => ?_)
      · have e2 : p < ((ns.length : Nat) : Int) := of_decide_eq_true e1
        obtain ⟨j, rfl⟩ : ∃ j : Nat, p = (j : Nat) := ⟨p.toNat, by omega⟩
        have hj : j < ns.length := by omega
        refine ⟨_, rfl, s, _, 0, _, rfl, rfl, SqL.of h1, atI_nat (j := 0) rfl, _, rfl, s, _, 2, _, rfl, rfl, SqL.of h1, atI_nat (j := 2) rfl, l, _, _, _, rfl, rfl, SqL.of h2, atI_nat (ints_get hj), .inl ⟨_, rfl, _, rfl, ?_⟩⟩
        refine ⟨_, rfl, s, _, 1, 1, rfl, rfl, h1, rfl, ?_⟩
        generalize hgv : (if ns.getD j 0 < 0 then -(ns.getD j 0) else ns.getD j 0) = v1
        have hv1 : 0 ≤ v1 := by
          rw [← hgv]
          by_cases c : ns.getD j 0 < 0
          · rw [if_pos c]; omega
          · rw [if_neg c]; omega
        refine ⟨_, rfl, s, _, 2, _, rfl, rfl, SqL.of upd_same, atI_nat (j := 2) rfl, _, _, rfl, rfl, _, rfl, s, _, 2, 2, rfl, rfl, upd_same, rfl, ?_⟩
        have g1 : (upd (upd H s (.lst [.ref l, .int v1, .int (j : Nat), .int x])) s (.lst [.ref l, .int v1, .int ((j : Nat) + 1), .int x])) s = some (.lst [.ref l, .int v1, .int ((j : Nat) + 1), .int x]) := upd_same
        have g2 : (upd (upd H s (.lst [.ref l, .int v1, .int (j : Nat), .int x])) s (.lst [.ref l, .int v1, .int ((j : Nat) + 1), .int x])) l = some (.lst (ns.map V.int)) := ((upd_ne nl).trans (upd_ne nl)).trans h2
        have gs : SameBut s H (upd (upd H s (.lst [.ref l, .int v1, .int (j : Nat), .int x])) s (.lst [.ref l, .int v1, .int ((j : Nat) + 1), .int x])) := SameBut.trans sameBut_upd sameBut_upd
        have hp1 : (0 : Int) ≤ (j : Nat) + 1 := by omega
        show tSeq _ _ _ _ (upd (upd H s (.lst [.ref l, .int v1, .int (j : Nat), .int x])) s (.lst [.ref l, .int v1, .int ((j : Nat) + 1), .int x]))
        generalize upd (upd H s (.lst [.ref l, .int v1, .int (j : Nat), .int x])) s (.lst [.ref l, .int v1, .int ((j : Nat) + 1), .int x]) = H1 at g1 g2 gs
        refine ⟨_, rfl, s, _, 1, _, rfl, rfl, SqL.of g1, atI_nat (j := 1) rfl, rfl, _, rfl, ite2 (fun e => ?_) (fun e => ?_)⟩
        · refine ⟨_, rfl, s, _, 3, _, rfl, rfl, SqL.of g1, atI_nat (j := 3) rfl, _, _, rfl, rfl, .inr ⟨by decide, by decide⟩, _, _, rfl, rfl, .inl ⟨_, rfl, _, _, rfl, rfl, (by show (0 : Int) < 2147483647; decide), ?_⟩⟩
          refine ⟨_, rfl, s, _, 3, 3, rfl, rfl, g1, rfl, ?_⟩
          refine ⟨_, rfl, s, _, 3, _, rfl, rfl, SqL.of upd_same, atI_nat (j := 3) rfl, _, _, rfl, rfl, ⟨by decide, by decide⟩, .inl ⟨_, rfl, _, rfl, _, _, rfl, rfl, m0, ?_⟩⟩
          exact fin ns v1 ((j : Nat) + 1) x H1 g1 g2 nl hn hv1 hp1 hx gs v1 ((j : Nat) + 1) _ hv1 hp1 (Int.emod_nonneg _ (by decide)) _ (Int.emod_nonneg _ (by omega)) (Int.emod_lt_of_pos _ m0)
        · refine ⟨_, rfl, s, _, 1, _, rfl, rfl, SqL.of g1, atI_nat (j := 1) rfl, .inl ⟨_, rfl, _, rfl, _, _, rfl, rfl, m0, ?_⟩⟩
          refine ⟨_, rfl, s, _, 1, _, rfl, rfl, SqL.of g1, atI_nat (j := 1) rfl, _, rfl, _, _, rfl, rfl, ⟨by omega, by omega⟩, _, rfl, s, _, 1, 1, rfl, rfl, g1, rfl, _, rfl, ?_⟩
          exact fin ns v1 ((j : Nat) + 1) x H1 g1 g2 nl hn hv1 hp1 hx gs _ ((j : Nat) + 1) x (Int.fdiv_nonneg hv1 (by omega)) hp1 hx _ (Int.emod_nonneg _ (by omega)) (Int.emod_lt_of_pos _ m0)
      · skip
        refine ⟨_, rfl, s, _, 1, _, rfl, rfl, SqL.of h1, atI_nat (j := 1) rfl, rfl, _, rfl, ite2 (fun e => ?_) (fun e => ?_)⟩
        · refine ⟨_, rfl, s, _, 3, _, rfl, rfl, SqL.of h1, atI_nat (j := 3) rfl, _, _, rfl, rfl, .inr ⟨by decide, by decide⟩, _, _, rfl, rfl, .inl ⟨_, rfl, _, _, rfl, rfl, (by show (0 : Int) < 2147483647; decide), ?_⟩⟩
          refine ⟨_, rfl, s, _, 3, 3, rfl, rfl, h1, rfl, ?_⟩
          refine ⟨_, rfl, s, _, 3, _, rfl, rfl, SqL.of upd_same, atI_nat (j := 3) rfl, _, _, rfl, rfl, ⟨by decide, by decide⟩, .inl ⟨_, rfl, _, rfl, _, _, rfl, rfl, m0, ?_⟩⟩
          exact fin ns v p x H h1 h2 nl hn hv hp hx (SameBut.refl s H) v p _ hv hp (Int.emod_nonneg _ (by decide)) _ (Int.emod_nonneg _ (by omega)) (Int.emod_lt_of_pos _ m0)
        · refine ⟨_, rfl, s, _, 1, _, rfl, rfl, SqL.of h1, atI_nat (j := 1) rfl, .inl ⟨_, rfl, _, rfl, _, _, rfl, rfl, m0, ?_⟩⟩
          refine ⟨_, rfl, s, _, 1, _, rfl, rfl, SqL.of h1, atI_nat (j := 1) rfl, _, rfl, _, _, rfl, rfl, ⟨by omega, by omega⟩, _, rfl, s, _, 1, 1, rfl, rfl, h1, rfl, _, rfl, ?_⟩
          exact fin ns v p x H h1 h2 nl hn hv hp hx (SameBut.refl s H) _ p x (Int.fdiv_nonneg hv (by omega)) hp hx _ (Int.emod_nonneg _ (by omega)) (Int.emod_lt_of_pos _ m0)
    · skip
      refine ⟨_, rfl, s, _, 1, _, rfl, rfl, SqL.of h1, atI_nat (j := 1) rfl, rfl, _, rfl, ite2 (fun e => ?_) (fun e => ?_)⟩
      · refine ⟨_, rfl, s, _, 3, _, rfl, rfl, SqL.of h1, atI_nat (j := 3) rfl, _, _, rfl, rfl, .inr ⟨by decide, by decide⟩, _, _, rfl, rfl, .inl ⟨_, rfl, _, _, rfl, rfl, (by show (0 : Int) < 2147483647; decide), ?_⟩⟩
        refine ⟨_, rfl, s, _, 3, 3, rfl, rfl, h1, rfl, ?_⟩
        refine ⟨_, rfl, s, _, 3, _, rfl, rfl, SqL.of upd_same, atI_nat (j := 3) rfl, _, _, rfl, rfl, ⟨by decide, by decide⟩, .inl ⟨_, rfl, _, rfl, _, _, rfl, rfl, m0, ?_⟩⟩
        exact fin ns v p x H h1 h2 nl hn hv hp hx (SameBut.refl s H) v p _ hv hp (Int.emod_nonneg _ (by decide)) _ (Int.emod_nonneg _ (by omega)) (Int.emod_lt_of_pos _ m0)
      · refine ⟨_, rfl, s, _, 1, _, rfl, rfl, SqL.of h1, atI_nat (j := 1) rfl, .inl ⟨_, rfl, _, rfl, _, _, rfl, rfl, m0, ?_⟩⟩
        refine ⟨_, rfl, s, _, 1, _, rfl, rfl, SqL.of h1, atI_nat (j := 1) rfl, _, rfl, _, _, rfl, rfl, ⟨by omega, by omega⟩, _, rfl, s, _, 1, 1, rfl, rfl, h1, rfl, _, rfl, ?_⟩
        exact fin ns v p x H h1 h2 nl hn hv hp hx (SameBut.refl s H) _ p x (Int.fdiv_nonneg hv (by omega)) hp hx _ (Int.emod_nonneg _ (by omega)) (Int.emod_lt_of_pos _ m0)
end
end LwW
set_option maxHeartbeats 4000000
namespace LwW
open PySem PySem.Spec PyProof.Rows L2 LwR
theorem strOk_app {a b : Str} (h1 : PySem.PyData.strOk a = true) (h2 : PySem.PyData.strOk b = true) : PySem.PyData.strOk (a ++ b) = true := by
  unfold PySem.PyData.strOk at *
  rw [Array.all_eq_true'] at *
  intro x hx
  have hx' : x ∈ a.cps ++ b.cps := hx
  rcases Array.mem_append.mp hx' with z | z
  · exact h1 x z
  · exact h2 x z
theorem nat_of {r m : Int} (h0 : 0 ≤ r) (h1 : r < m) : ∃ j : Nat, r = (j : Nat) ∧ (j : Int) < m := ⟨r.toNat, by omega, by omega⟩
section
variable {P : Program} {w : World} {K : PySem.W.Frag} {mg : Str → Option Value} {base : Heap}
def FarOk (r : Int) : Prop := 0 ≤ r ∧ r ≤ 1000000000
def spFar : Sp := fun vs H Q _ => ∃ (s l : Addr), vs = [.ref s] ∧ StrV H s l ∧ ∀ (r : Int) H', FarOk r → SameBut s H H' → StrV H' s l → Q (.int r) H'
theorem ok_far {f fD : Addr} {fd fdD : FuncData} {k : Nat} (F : Fun K "_law_far" "_law_far" sFar f fd)
    (GD : FnOk P w K mg base CX0 (k + 1) fD fdD ["_law_stream_here", "_law_many"] spDraw) (kD : PySem.W.keepIn K (.ref fD) = true) (bD : Binds K fdD ["_law_stream_here", "_law_many"] []) (gD : mg "_law_draw" = some (.ref fD)) :
    FnOk P w K mg base CX0 (k + 2) f fd ["_law_stream_here"] spFar := by
  refine F.ok scFar (fun vs H Q E h => ?_) (fun cdv A outer s0 H vs Q E hr h => ?_)
  · obtain ⟨s, l, rfl, _⟩ := h
    rfl
  · obtain ⟨s, l, rfl, hS, q⟩ := h
    refine ⟨_, pss_cons (ps_if (pt_cmpR op_gt (pe_call GD hr (by rfl) gD kD bD .nil pass0 (pa_cons (pv 0) (pa_cons pe_int pa_nil))) pe_int (nomark _))
        (pss_one (ps_ret (pe_call GD hr (by rfl) gD kD bD .nil pass0 (pa_cons (pv 0) (pa_cons pe_int pa_nil))))) pss_nil)
      (pss_one (ps_ret (pe_ix ix_list (pe_lst (pa_cons pe_int (pa_cons pe_int (pa_cons (pe_op op_pow pe_int pe_int) (pa_cons (pe_call GD hr (by rfl) gD kD bD .nil pass0 (pa_cons (pv 0) (pa_cons (pe_op op_pow pe_int pe_int) pa_nil))) pa_nil))))) (pe_call GD hr (by rfl) gD kD bD .nil pass0 (pa_cons (pv 0) (pa_cons pe_int pa_nil))) (fun _ _ => rfl)))), ?_⟩
    refine ⟨_, rfl, s, l, 4, rfl, hS, by decide, by decide, fun r H1 r0 r1 sb1 S1 => ?_⟩
    refine ⟨_, _, rfl, rfl, _, rfl, ite2 (fun e => ?_) (fun e => ?_)⟩
    · exact ⟨_, rfl, s, l, 3, rfl, S1, by decide, by decide, fun r2 H2 a0 a1 sb2 S2 => q r2 H2 ⟨a0, by omega⟩ (sb1.trans sb2) S2⟩
    · refine ⟨_, _, rfl, rfl, ⟨by decide, by decide, by decide⟩, _, rfl, _, _, rfl, rfl, ⟨by decide, by decide, by decide⟩, s, l, _, rfl, S1, by decide, by decide, fun r2 H2 a0 a1 sb2 S2 => ?_⟩
      have a1' : r2 < 1000000000 := a1
      refine ⟨by show 4 ≤ sizeLine; decide, fun D nD => ?_⟩
      have S3 := S2.put (o := .lst [.int 10, .int 12, .int 1000000000, .int r2]) nD
      have hD : (upd H2 D (.lst [.int 10, .int 12, .int 1000000000, .int r2])) D = some (.lst [.int 10, .int 12, .int 1000000000, .int r2]) := upd_same
      have sD : Same H2 (upd H2 D (.lst [.int 10, .int 12, .int 1000000000, .int r2])) := same_upd nD
      have nDs : D ≠ s := by
        obtain ⟨o, ho⟩ := S2.some
        exact (ne_of_none ho nD).symm
      refine ⟨_, rfl, s, l, 4, rfl, S3, by decide, by decide, fun r4 H4 c0 c1 sb4 S4 => ?_⟩
      have hD4 := sb4 D _ nDs hD
      obtain ⟨j, rfl, hj⟩ := nat_of c0 c1
      have sb : SameBut s H H4 := (sb1.trans sb2).trans ((SameBut.of sD).trans sb4)
      have hj' : j < 4 := by omega
      have : j = 0 ∨ j = 1 ∨ j = 2 ∨ j = 3 := by omega
      rcases this with rfl | rfl | rfl | rfl
      · exact ⟨D, _, _, .int 10, rfl, rfl, SqL.of hD4, atI_nat (j := 0) rfl, q _ _ ⟨by decide, by decide⟩ sb S4⟩
      · exact ⟨D, _, _, .int 12, rfl, rfl, SqL.of hD4, atI_nat (j := 1) rfl, q _ _ ⟨by decide, by decide⟩ sb S4⟩
      · exact ⟨D, _, _, .int 1000000000, rfl, rfl, SqL.of hD4, atI_nat (j := 2) rfl, q _ _ ⟨by decide, by decide⟩ sb S4⟩
      · exact ⟨D, _, _, .int r2, rfl, rfl, SqL.of hD4, atI_nat (j := 3) rfl, q _ _ ⟨a0, by omega⟩ sb S4⟩
theorem atom_lit {t : Str} (h : (decide (1 ≤ t.length) && decide (t.length ≤ 12) && PySem.PyData.strOk t) = true) : AtomOk t := by
  rw [Bool.and_eq_true, Bool.and_eq_true, decide_eq_true_eq, decide_eq_true_eq] at h
  exact ⟨h.1.1, h.1.2, h.2⟩
def spAtom : Sp := fun vs H Q _ => ∃ (s l : Addr), vs = [.ref s] ∧ StrV H s l ∧ ∀ (t : Str) H', AtomOk t → SameBut s H H' → StrV H' s l → Q (.str t) H'
theorem ok_atom {f fD : Addr} {fd fdD : FuncData} {k : Nat} (F : Fun K "_law_atom" "_law_atom" sAtom f fd) (B : Blt mg)
    (GD : FnOk P w K mg base CX0 (k + 1) fD fdD ["_law_stream_here", "_law_many"] spDraw) (kD : PySem.W.keepIn K (.ref fD) = true) (bD : Binds K fdD ["_law_stream_here", "_law_many"] []) (gD : mg "_law_draw" = some (.ref fD)) :
    FnOk P w K mg base CX0 (k + 2) f fd ["_law_stream_here"] spAtom := by
  refine F.ok scAtom (fun vs H Q E h => ?_) (fun cdv A outer s0 H vs Q E hr h => ?_)
  · obtain ⟨s, l, rfl, _⟩ := h
    rfl
  · obtain ⟨s, l, rfl, hS, q⟩ := h
    refine ⟨_, pss_cons (ps_if (pt_cmpR op_gt (pe_call GD hr (by rfl) gD kD bD .nil pass0 (pa_cons (pv 0) (pa_cons pe_int pa_nil))) pe_int (nomark _))
        (pss_one (ps_ret (pe_ix ix_list (pe_lst (pa_cons pe_str (pa_cons pe_str (pa_cons pe_str (pa_cons pe_str (pa_cons pe_str pa_nil)))))) (pe_call GD hr (by rfl) gD kD bD .nil pass0 (pa_cons (pv 0) (pa_cons pe_int pa_nil))) (fun _ _ => rfl)))) pss_nil)
      (pss_cons (ps_set (i := 1) scAtom.nd rfl (.inl rfl) (pe_ix ix_str pe_str (pe_call GD hr (by rfl) gD kD bD .nil pass0 (pa_cons (pv 0) (pa_cons pe_int pa_nil))) (fun _ _ => rfl)))
      (pss_cons (ps_for PassesOwn.never rfl (pi_range1 (by rfl) B.range (pa_cons (pe_call GD hr (by rfl) gD kD bD .nil pass0 (pa_cons (pv 0) (pa_cons pe_int pa_nil))) pa_nil)) (pg_name (i := 2) scAtom.nd rfl (.inl rfl))
        (pss_one (ps_set (i := 1) scAtom.nd rfl (.inl rfl) (pe_op op_add_str (pv 1) (pe_ix ix_str pe_str (pe_call GD hr (by rfl) gD kD bD .nil pass0 (pa_cons (pv 0) (pa_cons pe_int pa_nil))) (fun _ _ => rfl))))))
      (pss_one (ps_ret (pv 1))))), ?_⟩
    refine ⟨_, rfl, s, l, 3, rfl, hS, by decide, by decide, fun r H1 r0 r1 sb1 S1 => ?_⟩
    refine ⟨_, _, rfl, rfl, _, rfl, ite2 (fun e => ?_) (fun e => ?_)⟩
    · refine ⟨by show 5 ≤ sizeLine; decide, fun D nD => ?_⟩
      have S3 := S1.put (o := .lst [.str "a", .str "b", .str "nil", .str "x1", .str "abcdefghijkl"]) nD
      have hD : (upd H1 D (.lst [.str "a", .str "b", .str "nil", .str "x1", .str "abcdefghijkl"])) D = some (.lst [.str "a", .str "b", .str "nil", .str "x1", .str "abcdefghijkl"]) := upd_same
      have sD : Same H1 (upd H1 D (.lst [.str "a", .str "b", .str "nil", .str "x1", .str "abcdefghijkl"])) := same_upd nD
      have nDs : D ≠ s := by
        obtain ⟨o, ho⟩ := S1.some
        exact (ne_of_none ho nD).symm
      refine ⟨_, rfl, s, l, 5, rfl, S3, by decide, by decide, fun r4 H4 c0 c1 sb4 S4 => ?_⟩
      have hD4 := sb4 D _ nDs hD
      obtain ⟨j, rfl, hj⟩ := nat_of c0 c1
      have sb : SameBut s H H4 := sb1.trans ((SameBut.of sD).trans sb4)
      have : j = 0 ∨ j = 1 ∨ j = 2 ∨ j = 3 ∨ j = 4 := by omega
      rcases this with rfl | rfl | rfl | rfl | rfl
      · exact ⟨D, _, _, .str "a", rfl, rfl, SqL.of hD4, atI_nat (j := 0) rfl, q _ _ (atom_lit (by decide +kernel)) sb S4⟩
      · exact ⟨D, _, _, .str "b", rfl, rfl, SqL.of hD4, atI_nat (j := 1) rfl, q _ _ (atom_lit (by decide +kernel)) sb S4⟩
      · exact ⟨D, _, _, .str "nil", rfl, rfl, SqL.of hD4, atI_nat (j := 2) rfl, q _ _ (atom_lit (by decide +kernel)) sb S4⟩
      · exact ⟨D, _, _, .str "x1", rfl, rfl, SqL.of hD4, atI_nat (j := 3) rfl, q _ _ (atom_lit (by decide +kernel)) sb S4⟩
      · exact ⟨D, _, _, .str "abcdefghijkl", rfl, rfl, SqL.of hD4, atI_nat (j := 4) rfl, q _ _ (atom_lit (by decide +kernel)) sb S4⟩
    · refine ⟨_, rfl, s, l, 3, rfl, S1, by decide, by decide, fun r2 H2 a0 a1 sb2 S2 => ?_⟩
      obtain ⟨j, rfl, hj⟩ := nat_of a0 a1
      obtain ⟨c, hc, hc2⟩ : ∃ c, ("abz" : Str).cps.toList[j]? = some c ∧ c < 0x110000 := by
        have : j = 0 ∨ j = 1 ∨ j = 2 := by omega
        rcases this with rfl | rfl | rfl
        · exact ⟨97, by decide +kernel, by decide⟩
        · exact ⟨98, by decide +kernel, by decide⟩
        · exact ⟨122, by decide +kernel, by decide⟩
      refine ⟨_, _, c, rfl, rfl, by decide +kernel, atI_nat hc, ?_⟩
      refine ⟨_, rfl, s, l, 3, rfl, S2, by decide, by decide, fun r3 H3 b0 b1 sb3 S3 => ?_⟩
      refine ⟨r3, rfl, by omega, by omega, ?_⟩
      have sb13 := (sb1.trans sb2).trans sb3
      refine for_range (lo := 0) (n := r3.toNat) (fun i σ H4 => ∃ (t : Str) (y2 : Option V), σ = [some (.ref s), some (.str t), y2] ∧ t.length = 1 + i ∧ PySem.PyData.strOk t = true ∧ SameBut s H H4 ∧ StrV H4 s l) ?_ ?_ ?_
      · refine ⟨⟨#[c]⟩, none, rfl, rfl, ?_, sb13, S3⟩
        unfold PySem.PyData.strOk
        rw [Array.all_eq_true']
        intro y hy
        rw [Array.mem_singleton.mp hy]
        exact decide_eq_true hc2
      · rintro i σ H4 hi ⟨t, y2, rfl, h1, h2, sb4, S4⟩
        refine ⟨_, rfl, _, rfl, s, l, 6, rfl, S4, by decide, by decide, fun r5 H5 c0 c1 sb5 S5 => ?_⟩
        obtain ⟨j5, rfl, hj5⟩ := nat_of c0 c1
        obtain ⟨d, hd, hd2⟩ : ∃ c, ("abz019" : Str).cps.toList[j5]? = some c ∧ c < 0x110000 := by
          have : j5 = 0 ∨ j5 = 1 ∨ j5 = 2 ∨ j5 = 3 ∨ j5 = 4 ∨ j5 = 5 := by omega
          rcases this with rfl | rfl | rfl | rfl | rfl | rfl
          · exact ⟨97, by decide +kernel, by decide⟩
          · exact ⟨98, by decide +kernel, by decide⟩
          · exact ⟨122, by decide +kernel, by decide⟩
          · exact ⟨48, by decide +kernel, by decide⟩
          · exact ⟨49, by decide +kernel, by decide⟩
          · exact ⟨57, by decide +kernel, by decide⟩
        refine ⟨_, _, d, rfl, rfl, by decide +kernel, atI_nat hd, _, _, rfl, rfl, ?_, ?_⟩
        · rw [h1]; exact small_sizeL (by show 1 + i + 1 ≤ 100000; omega)
        refine ⟨t ++ (⟨#[d]⟩ : Str), _, rfl, ?_, strOk_app h2 ?_, sb4.trans sb5, S5⟩
        · rw [Str.length_append, h1]; rfl
        · unfold PySem.PyData.strOk
          rw [Array.all_eq_true']
          intro y hy
          rw [Array.mem_singleton.mp hy]
          exact decide_eq_true hd2
      · rintro σ H4 ⟨t, y2, rfl, h1, h2, sb4, S4⟩
        exact ⟨_, rfl, q t H4 ⟨by omega, by omega, h2⟩ sb4 S4⟩
end
end LwW
set_option maxHeartbeats 4000000
namespace LwW
open PySem PySem.Spec PyProof.Rows L2 LwR
abbrev sNode : Stmt := topS 27
abbrev sGr : Stmt := topS 28
theorem scNode : FnScope ["_law_stream_here", "_law_many", "_law_pick", "_law_parts", "_law_k"] ["_law_stream_here", "_law_many"] (defScope sNode) := ⟨rfl, rfl, rfl, by decide +kernel, rfl, by decide +kernel, by decide +kernel⟩
theorem scGr : FnScope ["_law_stream_here", "_law_most", "_law_many", "_law_k"] ["_law_stream_here", "_law_most"] (defScope sGr) := ⟨rfl, rfl, rfl, by decide +kernel, rfl, by decide +kernel, by decide +kernel⟩
section
variable {P : Program} {w : World} {K : PySem.W.Frag} {mg : Str → Option Value} {base : Heap}
def spNode : Sp := fun vs H Q _ => ∃ (s l : Addr) (m : Nat), vs = [.ref s, .int (m : Nat)] ∧ StrV H s l ∧ 0 < m ∧ m ≤ 100 ∧ ∀ (p : Addr) (nd : Nd) H', NodeV H' p nd → NdOk nd → (∀ q ∈ nd.parts, q < m) → SameBut s H H' → StrV H' s l → Q (.ref p) H'
theorem ok_node {f fD fF fA : Addr} {fd fdD fdF fdA : FuncData} {k : Nat} (F : Fun K "_law_node" "_law_node" sNode f fd) (B : Blt mg)
    (GD : FnOk P w K mg base CX0 (k + 1) fD fdD ["_law_stream_here", "_law_many"] spDraw) (kD : PySem.W.keepIn K (.ref fD) = true) (bD : Binds K fdD ["_law_stream_here", "_law_many"] []) (gD : mg "_law_draw" = some (.ref fD))
    (GF : FnOk P w K mg base CX0 (k + 2) fF fdF ["_law_stream_here"] spFar) (kF : PySem.W.keepIn K (.ref fF) = true) (bF : Binds K fdF ["_law_stream_here"] []) (gF : mg "_law_far" = some (.ref fF))
    (GA : FnOk P w K mg base CX0 (k + 2) fA fdA ["_law_stream_here"] spAtom) (kA : PySem.W.keepIn K (.ref fA) = true) (bA : Binds K fdA ["_law_stream_here"] []) (gA : mg "_law_atom" = some (.ref fA)) :
    FnOk P w K mg base CX0 (k + 3) f fd ["_law_stream_here", "_law_many"] spNode := by
  refine F.ok scNode (fun vs H Q E h => ?_) (fun cdv A outer s0 H vs Q E hr h => ?_)
  · obtain ⟨s, l, m, rfl, _⟩ := h
    rfl
  · obtain ⟨s, l, m, rfl, hS, m0, m9, q⟩ := h
    have hr1 : Room (k + 1) (A.deeper (envOfC "_law_node" (defScope sNode) s0.heap.objs.size f cdv)) := hr.mono (by omega)
    refine ⟨_, pss_cons (ps_set (i := 2) scNode.nd rfl (.inl rfl) (pe_call GD hr1 (by rfl) gD kD bD .nil pass0 (pa_cons (pv 0) (pa_cons pe_int pa_nil))))
      (pss_cons (ps_if (pt_cmpR op_eq (pv 2) pe_int (nomark _)) (pss_one (ps_ret (pe_tup (pa_cons pe_str (pa_cons (pe_call GF hr (by rfl) gF kF bF .nil pass0 (pa_cons (pv 0) pa_nil)) pa_nil))))) pss_nil)
      (pss_cons (ps_if (pt_cmpR op_eq (pv 2) pe_int (nomark _)) (pss_one (ps_ret (pe_tup (pa_cons pe_str (pa_cons (pe_ix ix_list (pe_lst (pa_cons pe_int (pa_cons pe_int (pa_cons (pe_un un_neg pe_int) (pa_cons pe_int (pa_cons (pe_un un_neg pe_int) (pa_cons (pe_op op_pow pe_int pe_int) (pa_cons (pe_un un_neg (pe_op op_pow pe_int pe_int)) pa_nil)))))))) (pe_call GD hr1 (by rfl) gD kD bD .nil pass0 (pa_cons (pv 0) (pa_cons pe_int pa_nil))) (fun _ _ => rfl)) pa_nil))))) pss_nil)
      (pss_cons (ps_if (pt_cmpR op_eq (pv 2) pe_int (nomark _)) (pss_one (ps_ret (pe_tup (pa_cons pe_str (pa_cons (pe_call GA hr (by rfl) gA kA bA .nil pass0 (pa_cons (pv 0) pa_nil)) pa_nil))))) pss_nil)
      (pss_cons (ps_if (pt_cmpR op_eq (pv 2) pe_int (nomark _)) (pss_one (ps_ret (pe_tup (pa_cons pe_str (pa_cons (pe_call GA hr (by rfl) gA kA bA .nil pass0 (pa_cons (pv 0) pa_nil)) (pa_cons (pe_call GF hr (by rfl) gF kF bF .nil pass0 (pa_cons (pv 0) pa_nil)) pa_nil)))))) pss_nil)
      (pss_cons (ps_setLc (i := 3) (own := [("_law_k", 4)]) (g := gName 4) (tt := tYes) rfl scNode.nd rfl rfl (sw_true rfl rfl rfl (by decide +kernel)) (pi_range1 (by rfl) B.range (pa_cons (pe_ix ix_list (pe_lst (pa_cons pe_int (pa_cons pe_int (pa_cons pe_int (pa_cons pe_int (pa_cons pe_int pa_nil)))))) (pe_call GD hr1 (by rfl) gD kD bD .nil pass0 (pa_cons (pv 0) (pa_cons pe_int pa_nil))) (fun _ _ => rfl)) pa_nil))
          (blkOk_by (N := ["_law_stream_here", "_law_many", "_law_pick", "_law_parts", "_law_k"]) (sc := defScope sNode) (by decide +kernel)) (fun _ _ _ _ _ => pg_name (i := 4) scNode.nd rfl (Or.inl rfl)) (fun _ _ _ _ _ => pts_nil)
          (fun _ _ _ _ _ => pe_call GD hr1 (by rfl) gD kD bD .nil pass0 (pa_cons (pv 0) (pa_cons (pv 1) pa_nil))))
      (pss_one (ps_ret (pe_tup (pa_cons pe_str (pa_cons (pe_ix ix_list (pe_lst (pa_cons pe_str (pa_cons pe_str (pa_cons pe_str (pa_cons pe_str (pa_cons pe_str pa_nil)))))) (pe_call GD hr1 (by rfl) gD kD bD .nil pass0 (pa_cons (pv 0) (pa_cons pe_int pa_nil))) (fun _ _ => rfl)) (pa_cons (pe_tupleOf (by rfl) B.tuple (pv 3)) pa_nil)))))))))))
      , ?_⟩
    have e9 : (10 : Int) ^ 9 = 1000000000 := by decide
    have far : ∀ {r : Int}, FarOk r → IntOk r := fun {r} h => by
      obtain ⟨h1, h2⟩ := h
      unfold IntOk
      rw [e9]; omega
    refine ⟨_, rfl, s, l, 9, rfl, hS, by decide, by decide, fun r H1 r0 r1 sb1 S1 => ?_⟩
    refine ⟨_, rfl, rfl, _, rfl, ite2 (fun e => ?_) (fun e => ?_)⟩
    · refine ⟨_, rfl, s, l, rfl, S1, fun r2 H2 hr2 sb2 S2 => ?_⟩
      exact ⟨by show 2 ≤ sizeLine; decide, fun p np => q p (.var r2) _ upd_same (far hr2) (fun z hz => nomatch hz) ((sb1.trans sb2).trans (SameBut.of (same_upd np))) (S2.put np)⟩
    refine ⟨_, rfl, rfl, _, rfl, ite2 (fun e1 => ?_) (fun e1 => ?_)⟩
    · refine ⟨_, rfl, _, rfl, _, _, rfl, rfl, ⟨by decide, by decide, by decide⟩, _, _, rfl, rfl, ⟨by decide, by decide, by decide⟩, _, rfl, by show 7 ≤ sizeLine; decide, fun D nD => ?_⟩
      have eL : ([.int 0, .int 1, .int (-1), .int 7, .int (-12), .int (10 ^ (9 : Int).toNat), .int (-(10 ^ (9 : Int).toNat))] : List V) = [.int 0, .int 1, .int (-1), .int 7, .int (-12), .int 1000000000, .int (-1000000000)] := by decide
      have S3 := S1.put (o := .lst [.int 0, .int 1, .int (-1), .int 7, .int (-12), .int (10 ^ (9 : Int).toNat), .int (-(10 ^ (9 : Int).toNat))]) nD
      have hD : (upd H1 D (.lst [.int 0, .int 1, .int (-1), .int 7, .int (-12), .int (10 ^ (9 : Int).toNat), .int (-(10 ^ (9 : Int).toNat))])) D = some (.lst [.int 0, .int 1, .int (-1), .int 7, .int (-12), .int 1000000000, .int (-1000000000)]) := by rw [upd_same, eL]
      have sD : Same H1 (upd H1 D (.lst [.int 0, .int 1, .int (-1), .int 7, .int (-12), .int (10 ^ (9 : Int).toNat), .int (-(10 ^ (9 : Int).toNat))])) := same_upd nD
      have nDs : D ≠ s := by
        obtain ⟨o, ho⟩ := S1.some
        exact (ne_of_none ho nD).symm
      refine ⟨_, rfl, s, l, 7, rfl, S3, by decide, by decide, fun r4 H4 c0 c1 sb4 S4 => ?_⟩
      have hD4 := sb4 D _ nDs hD
      obtain ⟨j, rfl, hj⟩ := nat_of c0 c1
      have sb : SameBut s H H4 := sb1.trans ((SameBut.of sD).trans sb4)
      have fin : ∀ z : Int, IntOk z → ∀ p, H4 p = none → Q (.ref p) (upd H4 p (.tup [.str "int", .int z])) := fun z hz p np => q p (.int z) _ upd_same hz (fun z hz => nomatch hz) (sb.trans (SameBut.of (same_upd np))) (S4.put np)
      have io : ∀ z : Int, -1000000000 ≤ z ∧ z ≤ 1000000000 → IntOk z := fun z h => by unfold IntOk; rw [e9]; exact h
      have : j = 0 ∨ j = 1 ∨ j = 2 ∨ j = 3 ∨ j = 4 ∨ j = 5 ∨ j = 6 := by omega
      rcases this with rfl | rfl | rfl | rfl | rfl | rfl | rfl
      · exact ⟨D, _, _, .int 0, rfl, rfl, SqL.of hD4, atI_nat (j := 0) rfl, by show 2 ≤ sizeLine; decide, fin _ (io _ (by decide))⟩
      · exact ⟨D, _, _, .int 1, rfl, rfl, SqL.of hD4, atI_nat (j := 1) rfl, by show 2 ≤ sizeLine; decide, fin _ (io _ (by decide))⟩
      · exact ⟨D, _, _, .int (-1), rfl, rfl, SqL.of hD4, atI_nat (j := 2) rfl, by show 2 ≤ sizeLine; decide, fin _ (io _ (by decide))⟩
      · exact ⟨D, _, _, .int 7, rfl, rfl, SqL.of hD4, atI_nat (j := 3) rfl, by show 2 ≤ sizeLine; decide, fin _ (io _ (by decide))⟩
      · exact ⟨D, _, _, .int (-12), rfl, rfl, SqL.of hD4, atI_nat (j := 4) rfl, by show 2 ≤ sizeLine; decide, fin _ (io _ (by decide))⟩
      · exact ⟨D, _, _, .int 1000000000, rfl, rfl, SqL.of hD4, atI_nat (j := 5) rfl, by show 2 ≤ sizeLine; decide, fin _ (io _ (by decide))⟩
      · exact ⟨D, _, _, .int (-1000000000), rfl, rfl, SqL.of hD4, atI_nat (j := 6) rfl, by show 2 ≤ sizeLine; decide, fin _ (io _ (by decide))⟩
    refine ⟨_, rfl, rfl, _, rfl, ite2 (fun e2 => ?_) (fun e2 => ?_)⟩
    · refine ⟨_, rfl, s, l, rfl, S1, fun t H2 ht sb2 S2 => ?_⟩
      exact ⟨by show 2 ≤ sizeLine; decide, fun p np => q p (.atom t) _ upd_same ht (fun z hz => nomatch hz) ((sb1.trans sb2).trans (SameBut.of (same_upd np))) (S2.put np)⟩
    refine ⟨_, rfl, rfl, _, rfl, ite2 (fun e3 => ?_) (fun e3 => ?_)⟩
    · refine ⟨_, rfl, s, l, rfl, S1, fun t H2 ht sb2 S2 => ?_⟩
      refine ⟨_, rfl, s, l, rfl, S2, fun r3 H3 hr3 sb3 S3 => ?_⟩
      exact ⟨by show 3 ≤ sizeLine; decide, fun p np => q p (.name t r3) _ upd_same ⟨ht, far hr3⟩ (fun z hz => nomatch hz) (((sb1.trans sb2).trans sb3).trans (SameBut.of (same_upd np))) (S3.put np)⟩
    refine ⟨by show 5 ≤ sizeLine; decide, fun D nD => ?_⟩
    have S3 := S1.put (o := .lst [.int 1, .int 2, .int 2, .int 3, .int 6]) nD
    have hD : (upd H1 D (.lst [.int 1, .int 2, .int 2, .int 3, .int 6])) D = some (.lst [.int 1, .int 2, .int 2, .int 3, .int 6]) := upd_same
    have sD : Same H1 (upd H1 D (.lst [.int 1, .int 2, .int 2, .int 3, .int 6])) := same_upd nD
    have nDs : D ≠ s := by
      obtain ⟨o, ho⟩ := S1.some
      exact (ne_of_none ho nD).symm
    refine ⟨_, rfl, s, l, 5, rfl, S3, by decide, by decide, fun r4 H4 c0 c1 sb4 S4 => ?_⟩
    have hD4 := sb4 D _ nDs hD
    obtain ⟨j, rfl, hj⟩ := nat_of c0 c1
    have sb04 : SameBut s H H4 := sb1.trans ((SameBut.of sD).trans sb4)
    obtain ⟨c, hc, hc1, hc6⟩ : ∃ c : Nat, ([.int 1, .int 2, .int 2, .int 3, .int 6] : List V)[j]? = some (.int (c : Nat)) ∧ 1 ≤ c ∧ c ≤ 6 := by
      have : j = 0 ∨ j = 1 ∨ j = 2 ∨ j = 3 ∨ j = 4 := by omega
      rcases this with rfl | rfl | rfl | rfl | rfl
      · exact ⟨1, rfl, by decide, by decide⟩
      · exact ⟨2, rfl, by decide, by decide⟩
      · exact ⟨2, rfl, by decide, by decide⟩
      · exact ⟨3, rfl, by decide, by decide⟩
      · exact ⟨6, rfl, by decide, by decide⟩
    refine ⟨D, _, _, .int (c : Nat), rfl, rfl, SqL.of hD4, atI_nat hc, _, rfl, by omega, by omega, fun pl npl => ?_⟩
    have nps := S4.ne npl
    refine lc_range (lo := 0) (n := (((c : Nat) : Int)).toNat) (fun i H5 => ∃ ps : List Nat, H5 pl = some (.lst (intsV ps)) ∧ ps.length = i ∧ (∀ x ∈ ps, x < m) ∧ SameBut s H H5 ∧ StrV H5 s l) ?_ ?_ ?_
    · exact ⟨[], upd_same, rfl, (fun x hx => nomatch hx), sb04.trans (SameBut.of (same_upd npl)), S4.put npl⟩
    · rintro i H5 hi ⟨ps, h1, h2, h3, h4, S5⟩
      refine ⟨rfl, _, rfl, _, rfl, s, l, _, rfl, S5, by omega, by omega, fun r6 H6 d0 d1 sb6 S6 => ?_⟩
      obtain ⟨x, rfl, hx⟩ := nat_of d0 d1
      have hp6 := sb6 _ _ nps.1.symm h1
      refine ⟨_, hp6, by rw [intsV_len, h2]; exact small_size (by omega), ps ++ [x], ?_, by rw [List.length_append, h2]; rfl, ?_, ?_, S6.other nps⟩
      · rw [upd_same, intsV_append]; rfl
      · intro y hy
        rcases List.mem_append.mp hy with z | z
        · exact h3 y z
        · rw [List.mem_singleton.mp z]; omega
      · intro b o nb e
        have nbp : b ≠ pl := fun z => by
          subst z
          have := sb04
          exact absurd (sb04 _ _ nb e) (by rw [npl]; exact fun z => nomatch z)
        rw [upd_ne nbp]
        exact (h4.trans sb6) b o nb e
    · rintro H5 ⟨ps, h1, h2, h3, h4, S5⟩
      refine ⟨by show 5 ≤ sizeLine; decide, fun D2 nD2 => ?_⟩
      have S6 := S5.put (o := .lst [.str "f", .str "f", .str "fa", .str "cons", .str "cell"]) nD2
      have hD6 : (upd H5 D2 (.lst [.str "f", .str "f", .str "fa", .str "cons", .str "cell"])) D2 = some (.lst [.str "f", .str "f", .str "fa", .str "cons", .str "cell"]) := upd_same
      have sD6 : Same H5 (upd H5 D2 (.lst [.str "f", .str "f", .str "fa", .str "cons", .str "cell"])) := same_upd nD2
      have nDs6 := (S5.ne nD2).1.symm
      refine ⟨_, rfl, s, l, 5, rfl, S6, by decide, by decide, fun r7 H7 d0 d1 sb7 S7 => ?_⟩
      obtain ⟨j7, rfl, hj7⟩ := nat_of d0 d1
      have hD7 := sb7 _ _ nDs6 hD6
      have hp7 := sb7 _ _ nps.1.symm (sD6 _ _ h1)
      have sb07 : SameBut s H H7 := h4.trans ((SameBut.of sD6).trans sb7)
      obtain ⟨nm, hnm, hok⟩ : ∃ nm : Str, ([.str "f", .str "f", .str "fa", .str "cons", .str "cell"] : List V)[j7]? = some (.str nm) ∧ AtomOk nm := by
        have : j7 = 0 ∨ j7 = 1 ∨ j7 = 2 ∨ j7 = 3 ∨ j7 = 4 := by omega
        rcases this with rfl | rfl | rfl | rfl | rfl
        · exact ⟨"f", rfl, atom_lit (by decide +kernel)⟩
        · exact ⟨"f", rfl, atom_lit (by decide +kernel)⟩
        · exact ⟨"fa", rfl, atom_lit (by decide +kernel)⟩
        · exact ⟨"cons", rfl, atom_lit (by decide +kernel)⟩
        · exact ⟨"cell", rfl, atom_lit (by decide +kernel)⟩
      refine ⟨D2, _, _, .str nm, rfl, rfl, SqL.of hD7, atI_nat hnm, _, rfl, .inl ⟨pl, _, rfl, SqL.of hp7, fun tq ntq => ?_⟩⟩
      have S8 := S7.put (o := .tup (intsV ps)) ntq
      have h8 : (upd H7 tq (.tup (intsV ps))) tq = some (.tup (intsV ps)) := upd_same
      have s8 : Same H7 (upd H7 tq (.tup (intsV ps))) := same_upd ntq
      refine ⟨by show 3 ≤ sizeLine; decide, fun p np => ?_⟩
      refine q p (.tup nm ps) _ ⟨tq, upd_same, (upd_ne (ne_of_none h8 np)).trans h8⟩ ⟨hok, by rw [h2]; omega⟩ h3 ((sb07.trans (SameBut.of s8)).trans (SameBut.of (same_upd np))) (S8.put np)
end
end LwW
set_option maxHeartbeats 4000000
namespace LwW
open PySem PySem.Spec PyProof.Rows L2 LwR
abbrev sTw : Stmt := topS 29
theorem scTw : FnScope ["_law_stream_here", "_law_graph_here", "_law_many", "_law_rows", "_law_k", "_law_node_here", "_law_part"] ["_law_stream_here", "_law_graph_here"] (defScope sTw) := ⟨rfl, rfl, rfl, by decide +kernel, rfl, by decide +kernel, by decide +kernel⟩
theorem SameBut.putNew {s q : Addr} {H H1 : Hp} {o : HO} (a : SameBut s H H1) (nq : H q = none) : SameBut s H (upd H1 q o) := fun b x n e => by
  rw [upd_ne (ne_of_none e nq)]
  exact a b x n e
section
variable {P : Program} {w : World} {K : PySem.W.Frag} {mg : Str → Option Value} {base : Heap}
def spGr : Sp := fun vs H Q _ => ∃ (s l : Addr), vs = [.ref s, .int 10] ∧ StrV H s l ∧ ∀ (a : Addr) (G : Gr) H', GrV H' a G → Gok G → G.length ≤ 10 → SameBut s H H' → StrV H' s l → Q (.ref a) H'
theorem ok_gr {f fD fN : Addr} {fd fdD fdN : FuncData} {k : Nat} (F : Fun K "_law_graph" "_law_graph" sGr f fd) (B : Blt mg)
    (GD : FnOk P w K mg base CX0 (k + 1) fD fdD ["_law_stream_here", "_law_many"] spDraw) (kD : PySem.W.keepIn K (.ref fD) = true) (bD : Binds K fdD ["_law_stream_here", "_law_many"] []) (gD : mg "_law_draw" = some (.ref fD))
    (GN : FnOk P w K mg base CX0 (k + 3) fN fdN ["_law_stream_here", "_law_many"] spNode) (kN : PySem.W.keepIn K (.ref fN) = true) (bN : Binds K fdN ["_law_stream_here", "_law_many"] []) (gN : mg "_law_node" = some (.ref fN)) :
    FnOk P w K mg base CX0 (k + 4) f fd ["_law_stream_here", "_law_most"] spGr := by
  refine F.ok scGr (fun vs H Q E h => ?_) (fun cdv A outer s0 H vs Q E hr h => ?_)
  · obtain ⟨s, l, rfl, _⟩ := h
    rfl
  · obtain ⟨s, l, rfl, hS, q⟩ := h
    have hr1 : Room (k + 1) (A.deeper (envOfC "_law_graph" (defScope sGr) s0.heap.objs.size f cdv)) := hr.mono (by omega)
    refine ⟨_, pss_cons (ps_set (i := 2) scGr.nd rfl (.inr rfl) (pe_op op_add pe_int (pe_call GD hr1 (by rfl) gD kD bD .nil pass0 (pa_cons (pv 0) (pa_cons (pv 1) pa_nil)))))
      (pss_one (ps_ret (pe_tupleOf (by rfl) B.tuple (pe_lc (own := [("_law_k", 3)]) (g := gName 3) (tt := tYes) rfl scGr.nd (pi_range1 (by rfl) B.range (pa_cons (pv 2) pa_nil))
        (blkOk_by (N := ["_law_stream_here", "_law_most", "_law_many", "_law_k"]) (sc := defScope sGr) (by decide +kernel)) (fun _ _ _ _ _ => pg_name (i := 3) scGr.nd rfl (Or.inl rfl)) (fun _ _ _ _ _ => pts_nil)
        (fun _ _ _ _ _ => pe_call GN hr (by rfl) gN kN bN .nil pass0 (pa_cons (pv 0) (pa_cons (pv 2) pa_nil))))))), ?_⟩
    refine ⟨_, rfl, _, rfl, s, l, 10, rfl, hS, by decide, by decide, fun r H1 r0 r1 sb1 S1 => ?_⟩
    refine ⟨_, _, rfl, rfl, ?_⟩
    obtain ⟨m, hm, m1, m10⟩ : ∃ m : Nat, 1 + r = (m : Nat) ∧ 1 ≤ m ∧ m ≤ 10 := ⟨(1 + r).toNat, by omega, by omega, by omega⟩
    show gName 2 (V.int (1 + r)) _ _ _
    rw [hm]
    refine ⟨_, rfl, _, rfl, by omega, by omega, fun D nD => ?_⟩
    have nS := S1.ne nD
    have nD0 : ∀ {b o}, b ≠ s → H b = some o → b ≠ D := fun nb e => ne_of_none (sb1 _ _ nb e) nD
    refine lc_range (lo := 0) (n := (((m : Nat) : Int)).toNat) (fun i H5 => ∃ (as : List Addr) (G : Gr), H5 D = some (.lst (as.map V.ref)) ∧ NodesV H5 as G ∧ G.length = i ∧ (∀ j, j < i → NdOk (Lw.at_ G j) ∧ ∀ q ∈ (Lw.at_ G j).parts, q < m) ∧ SameBut s H H5 ∧ StrV H5 s l) ?_ ?_ ?_
    · exact ⟨[], [], upd_same, NodesV.nil, rfl, (fun j hj => absurd hj (Nat.not_lt_zero _)), sb1.trans (SameBut.of (same_upd nD)), S1.put nD⟩
    · rintro i H5 hi ⟨as, G, h1, h2, h3, h4, h5, S5⟩
      refine ⟨rfl, _, rfl, _, rfl, s, l, m, rfl, S5, by omega, by omega, fun p nd H6 hp hok hlt sb6 S6 => ?_⟩
      have hD6 := sb6 _ _ nS.1.symm h1
      have tk6 := S5.tk sb6
      have tk7 : TK H6 (upd H6 D (.lst ((as ++ [p]).map V.ref))) := sameBut_upd.tk hD6 (fun xs z => nomatch z)
      have emap : as.map V.ref ++ [V.ref p] = (as ++ [p]).map V.ref := by rw [List.map_append]; rfl
      refine ⟨_, hD6, by rw [List.length_map, h2.len, h3]; exact small_size (by omega), ?_⟩
      rw [emap]
      refine ⟨as ++ [p], G ++ [nd], upd_same, ((h2.keep tk6).keep tk7).snoc (hp.keep tk7), by rw [List.length_append, h3]; rfl, fun j hj => ?_, ?_, S6.other nS⟩
      · by_cases c : j < i
        · rw [Lw.at_append_left (by omega)]; exact h4 j c
        · have : j = G.length := by omega
          subst this
          rw [Lw.at_append_last]; exact ⟨hok, hlt⟩
      · intro b o nb e
        rw [upd_ne (nD0 nb e)]
        exact (h5.trans sb6) b o nb e
    · rintro H5 ⟨as, G, h1, h2, h3, h4, h5, S5⟩
      have hlen : G.length = m := by omega
      refine .inl ⟨D, _, rfl, SqL.of h1, fun a na => ?_⟩
      have t6 : TK H5 (upd H5 a (.tup (as.map V.ref))) := TK.of (same_upd na)
      refine q a G _ ⟨as, upd_same, h2.keep t6⟩ ⟨⟨by omega, fun i hi p hp => ?_⟩, by omega, fun i hi => (h4 i (by omega)).1⟩ (by omega) (h5.trans (SameBut.of (same_upd na))) (S5.put na)
      have := (h4 i (by omega)).2 p hp
      omega
theorem rel_ok {R : Nat → Nat → Prop} {a b : Nd} (h : Lw.Nd.Rel R a b) (ok : NdOk a) : NdOk b := by
  cases a with
  | tup s ps =>
    obtain ⟨qs, rfl, e, _⟩ := h
    exact ⟨ok.1, by rw [e]; exact ok.2⟩
  | var n => have e : b = _ := h; rw [e]; exact ok
  | int n => have e : b = _ := h; rw [e]; exact ok
  | atom n => have e : b = _ := h; rw [e]; exact ok
  | name t n => have e : b = _ := h; rw [e]; exact ok
theorem rel_leaf {R : Nat → Nat → Prop} {a : Nd} (h : word a ≠ "tuple") : Lw.Nd.Rel R a a := by
  cases a with
  | tup s ps => exact absurd rfl h
  | _ => rfl
def spTw : Sp := fun vs H Q _ => ∃ (s l a : Addr) (G : Gr), vs = [.ref s, .ref a] ∧ StrV H s l ∧ GrV H a G ∧ Gok G ∧ G.length ≤ 10 ∧ ∀ (b : Addr) (T : Gr) H', GrV H' b T → Lw.Twice G T → Gok T → SameBut s H H' → StrV H' s l → Q (.ref b) H'
theorem ok_tw {f fD : Addr} {fd fdD : FuncData} {k : Nat} (F : Fun K "_law_twice" "_law_twice" sTw f fd) (B : Blt mg)
    (GD : FnOk P w K mg base CX0 (k + 1) fD fdD ["_law_stream_here", "_law_many"] spDraw) (kD : PySem.W.keepIn K (.ref fD) = true) (bD : Binds K fdD ["_law_stream_here", "_law_many"] []) (gD : mg "_law_draw" = some (.ref fD)) :
    FnOk P w K mg base CX0 (k + 2) f fd ["_law_stream_here", "_law_graph_here"] spTw := by
  refine F.ok scTw (fun vs H Q E h => ?_) (fun cdv A outer s0 H vs Q E hr h => ?_)
  · obtain ⟨s, l, a, G, rfl, _⟩ := h
    rfl
  · obtain ⟨s, l, a, G, rfl, hS, hG, ok, few, q⟩ := h
    refine ⟨_, pss_cons (ps_set (i := 2) scTw.nd rfl (.inr rfl) (pe_callB call_len_seq (by rfl) B.len PySem.boot_len (pa_cons (pv 1) pa_nil)))
      (pss_cons (ps_set (i := 3) scTw.nd rfl (.inl rfl) (pe_lst pa_nil))
      (pss_cons (ps_for PassesOwn.never rfl (pi_range1 (by rfl) B.range (pa_cons (pe_op op_mul pe_int (pv 2)) pa_nil)) (pg_name (i := 4) scTw.nd rfl (.inl rfl))
        (pss_cons (ps_set (i := 5) scTw.nd rfl (.inl rfl) (pe_ix ix_tup (pv 1) (pe_op op_mod (pe_callTy call_int1 (by rfl) B.int PyProof.Rows.boot_int (pa_cons (pv 4) pa_nil)) (pv 2)) (fun _ _ => rfl)))
        (pss_cons (ps_if (pt_cmpR op_eq (pe_ix ix_tup (pv 5) pe_int (fun _ _ => rfl)) pe_str (nomark _))
          (pss_one (ps_set (i := 5) scTw.nd rfl (.inl rfl) (pe_op op_catT (pe_slice sl_tupA (pv 5) po_none (po_some pe_int))
            (pe_tup (pa_cons (pe_tupleOf (by rfl) B.tuple (pe_lc (own := [("_law_part", 6)]) (g := gName 6) (tt := tYes) rfl scTw.nd (pi_tup (pe_ix ix_tup (pv 5) pe_int (fun _ _ => rfl)))
              (blkOk_by (N := ["_law_stream_here", "_law_graph_here", "_law_many", "_law_rows", "_law_k", "_law_node_here", "_law_part"]) (sc := defScope sTw) (by decide +kernel)) (fun _ _ _ _ _ => pg_name (i := 6) scTw.nd rfl (Or.inl rfl)) (fun _ _ _ _ _ => pts_nil)
              (fun _ _ _ _ _ => pe_op op_add (pv 6) (pe_op op_mul (pv 2) (pe_call GD hr (by rfl) gD kD bD .nil pass0 (pa_cons (pv 0) (pa_cons pe_int pa_nil))))))) pa_nil))))) pss_nil)
        (pss_one (ps_expr (pe_bm PySem.F.plainAttrs_list PySem.F.slot_list_append PySem.F.type_list_append mt_append (pv 3) (pa_cons (pv 5) pa_nil)))))))
      (pss_one (ps_ret (pe_tupleOf (by rfl) B.tuple (pv 3)))))), ?_⟩
    obtain ⟨ls, ha, hls⟩ := hG
    have hmap : (ls.map V.ref).length = G.length := by rw [List.length_map, hls.len]
    have hpos := ok.ok.pos
    refine ⟨_, rfl, a, _, rfl, .inr (SqT.of ha), ?_⟩
    rw [hmap]
    refine ⟨Nat.zero_le _, fun rl nrl => ?_⟩
    have nS := hS.ne nrl
    refine ⟨_, rfl, _, _, rfl, rfl, .inl ⟨by decide, by decide⟩, _, rfl, by omega, by omega, ?_⟩
    have e2 : (2 * ((G.length : Nat) : Int)).toNat = 2 * G.length := by omega
    rw [e2]
    refine for_range (lo := 0) (n := 2 * G.length) (fun i σ H5 => ∃ (y4 y5 y6 : Option V) (as : List Addr) (T : Gr), σ = [some (.ref s), some (.ref a), some (.int (G.length : Nat)), some (.ref rl), y4, y5, y6] ∧ H5 rl = some (.lst (as.map V.ref)) ∧ NodesV H5 as T ∧ T.length = i ∧
      (∀ j, j < i → Lw.Nd.Rel (fun p q => q < 2 * G.length ∧ q % G.length = p) (Lw.at_ G (j % G.length)) (Lw.at_ T j)) ∧ SameBut s H H5 ∧ StrV H5 s l) ?_ ?_ ?_
    · exact ⟨none, none, none, [], [], rfl, upd_same, NodesV.nil, rfl, (fun j hj => absurd hj (Nat.not_lt_zero _)), SameBut.of (same_upd nrl), hS.put nrl⟩
    · rintro i σ H5 hi ⟨y4, y5, y6, as, T, rfl, h1, h2, h3, h4, h5, S5⟩
      rw [Int.zero_add]
      have tk5 := hS.tk h5
      have hmod : i % G.length < G.length := Nat.mod_lt _ hpos
      obtain ⟨b, hb⟩ : ∃ b, ls[i % G.length]? = some b := ⟨_, List.getElem?_eq_getElem (by rw [hls.len]; exact hmod)⟩
      have hnd := (hls.node _ b hb).keep tk5
      have hok := ok.nodes _ hmod
      have hpl := ok.ok.parts _ hmod
      generalize hndE : Lw.at_ G (i % G.length) = nd at hnd hok hpl
      obtain ⟨z, hi1, hq⟩ := hnd.items
      have fin : ∀ (r : Addr) (nd' : Nd) (H9 : Hp) (y6 : Option V), NodeV H9 r nd' → Lw.Nd.Rel (fun p q => q < 2 * G.length ∧ q % G.length = p) nd nd' → SameBut s H5 H9 → StrV H9 s l → (∀ b, b ≠ s → ∀ o, H5 b = some o → H9 b = some o) →
          ∃ (y4' y5' y6' : Option V) (as' : List Addr) (T' : Gr), [some (.ref s), some (.ref a), some (.int (G.length : Nat)), some (.ref rl), some (.int (i : Nat)), some (.ref r), y6] = [some (.ref s), some (.ref a), some (.int (G.length : Nat)), some (.ref rl), y4', y5', y6'] ∧ (upd H9 rl (.lst (as.map V.ref ++ [V.ref r]))) rl = some (.lst (as'.map V.ref)) ∧ NodesV (upd H9 rl (.lst (as.map V.ref ++ [V.ref r]))) as' T' ∧ T'.length = i + 1 ∧
      (∀ j, j < i + 1 → Lw.Nd.Rel (fun p q => q < 2 * G.length ∧ q % G.length = p) (Lw.at_ G (j % G.length)) (Lw.at_ T' j)) ∧ SameBut s H (upd H9 rl (.lst (as.map V.ref ++ [V.ref r]))) ∧ StrV (upd H9 rl (.lst (as.map V.ref ++ [V.ref r]))) s l := fun r nd' H9 y6 g1 g2 g3 g4 _ => by
        have hr9 := g3 _ _ nS.1.symm h1
        have t9 : TK H9 (upd H9 rl (.lst (as.map V.ref ++ [V.ref r]))) := sameBut_upd.tk hr9 (fun xs z => nomatch z)
        refine ⟨some (.int (i : Nat)), some (.ref r), y6, as ++ [r], T ++ [nd'], rfl, ?_, ((h2.keep (S5.tk g3)).keep t9).snoc (g1.keep t9), by rw [List.length_append, h3]; rfl, fun j hj => ?_, (h5.trans g3).putNew nrl, g4.other nS⟩
        · rw [upd_same, List.map_append]; rfl
        · by_cases c : j < i
          · rw [Lw.at_append_left (by omega)]; exact h4 j c
          · have : j = T.length := by omega
            subst this
            rw [Lw.at_append_last, h3, hndE]; exact g2
      have eM : ((i : Nat) : Int) % ((G.length : Nat) : Int) = ((i % G.length : Nat) : Int) := by omega
      refine ⟨_, rfl, _, rfl, .inl ⟨_, rfl, _, rfl, _, _, rfl, rfl, (by show (0 : Int) < (G.length : Nat); omega), a, _, _, .ref b, rfl, rfl, SqT.of (tk5 _ _ ha), ?_, ?_⟩⟩
      · show atI _ (((i : Nat) : Int) % ((G.length : Nat) : Int)) = _
        rw [eM]; exact atI_nat (map_ref_get hb)
      refine ⟨_, rfl, b, _, 0, _, rfl, rfl, SqT.of hi1, atI_nat (j := 0) (items0 z nd), rfl, _, rfl, ite2 (fun e => ?_) (fun e => ?_)⟩
      · have e1 : word nd = "tuple" := V.str.inj (of_decide_eq_true e)
        obtain ⟨nm, ps, rfl⟩ := (word_tup nd).mp e1
        have hq' := hq _ _ rfl
        refine ⟨_, rfl, _, rfl, b, [.str "tuple", .str nm, .ref z], rfl, SqT.of hi1, (fun hh => absurd (show min 2 3 = 3 from hh.2) (by decide)), fun _ t2 nt2 => ?_⟩
        have h12 : (upd H5 t2 (.tup [.str "tuple", .str nm])) t2 = some (.tup [.str "tuple", .str nm]) := upd_same
        have s12 : Same H5 (upd H5 t2 (.tup [.str "tuple", .str nm])) := same_upd nt2
        have S12 := S5.put (o := .tup [.str "tuple", .str nm]) nt2
        have ecut : cutV [.str "tuple", .str nm, .ref z] none (some 2) = [.str "tuple", .str nm] := rfl
        rw [ecut]
        generalize upd H5 t2 (.tup [.str "tuple", .str nm]) = H6 at h12 s12 S12
        refine ⟨_, rfl, b, _, 2, .ref z, rfl, rfl, SqT.of (s12 _ _ hi1), atI_nat (j := 2) rfl, z, rfl, ⟨_, SqT.of (s12 _ _ hq')⟩, fun D nD => ?_⟩
        have nSD := S12.ne nD
        refine lc_tup (K := K) (a := z) (xs := intsV ps) (fun j H7 => ∃ qs : List Nat, H7 D = some (.lst (intsV qs)) ∧ qs.length = j ∧ (∀ (x p q : Nat), ps[x]? = some p → qs[x]? = some q → q < 2 * G.length ∧ q % G.length = p) ∧ SameBut s H6 H7 ∧ StrV H7 s l) ?_ ?_ ?_ ?_
        · exact ⟨[], upd_same, rfl, (fun x p q _ e => by cases e), SameBut.of (same_upd nD), S12.put nD⟩
        · rintro j H7 _ ⟨qs, _, _, _, g4, _⟩
          exact SqT.of ((S12.tk g4) _ _ (s12 _ _ hq'))
        · rintro j y H7 hy ⟨qs, g1, g2, g3, g4, S7⟩
          have hjl : j < ps.length := by
            have := (List.getElem?_eq_some_iff.mp hy).1
            rw [intsV_len] at this; exact this
          have gp : ps[j]? = some ps[j] := List.getElem?_eq_getElem hjl
          have ey : y = V.int ((ps[j] : Nat)) := Option.some.inj (hy.symm.trans (intsV_get gp))
          have hpj : ps[j] < G.length := hpl _ (List.getElem_mem hjl)
          generalize ps[j] = pp at gp ey hpj
          subst ey
          refine ⟨rfl, _, rfl, _, rfl, _, rfl, s, l, 2, rfl, S7, by decide, by decide, fun r H8 d0 d1 sb8 S8 => ?_⟩
          obtain ⟨c, rfl, hc⟩ := nat_of d0 d1
          have hD8 := sb8 _ _ nSD.1.symm g1
          have ec : ((pp : Nat) : Int) + ((G.length : Nat) : Int) * ((c : Nat) : Int) = ((pp + G.length * c : Nat) : Int) := by rw [Int.natCast_add, Int.natCast_mul]
          refine ⟨_, _, rfl, rfl, .inl ⟨by omega, by omega⟩, _, _, rfl, rfl, _, hD8, by rw [intsV_len, g2]; exact small_size (by have := hok.2; omega), ?_⟩
          dsimp only
          rw [ec]
          refine ⟨qs ++ [pp + G.length * c], ?_, by rw [List.length_append, g2]; rfl, fun x p q hp hq2 => ?_, (g4.trans sb8).putNew nD, S8.other nSD⟩
          · rw [upd_same, intsV_append]; rfl
          · by_cases cx : x < j
            · rw [List.getElem?_append_left (by omega)] at hq2
              exact g3 x p q hp hq2
            · rw [List.getElem?_append_right (by omega)] at hq2
              have hx0 : x - qs.length = 0 := by
                have := (List.getElem?_eq_some_iff.mp hq2).1
                rw [List.length_singleton] at this; omega
              rw [hx0] at hq2
              have hxj : x = j := by omega
              subst hxj
              rw [gp] at hp
              cases hp; cases hq2
              have : c = 0 ∨ c = 1 := by omega
              rcases this with rfl | rfl
              · rw [Nat.mul_zero, Nat.add_zero]
                exact ⟨by omega, Nat.mod_eq_of_lt hpj⟩
              · rw [Nat.mul_one]
                exact ⟨by omega, by rw [Nat.add_mod_right]; exact Nat.mod_eq_of_lt hpj⟩
        · rintro H7 ⟨qs, g1, g2, g3, g4, S7⟩
          rw [intsV_len] at g2
          refine .inl ⟨D, _, rfl, SqL.of g1, fun tq ntq => ?_⟩
          have s8 : Same H7 (upd H7 tq (.tup (intsV qs))) := same_upd ntq
          have h8 : (upd H7 tq (.tup (intsV qs))) tq = some (.tup (intsV qs)) := upd_same
          have S8 := S7.put (o := .tup (intsV qs)) ntq
          have h28 := s8 _ _ ((S12.tk g4) _ _ h12)
          generalize upd H7 tq (.tup (intsV qs)) = H8 at s8 h8 S8 h28
          refine ⟨by show 1 ≤ sizeLine; decide, fun t3 nt3 => ?_⟩
          have s9 : Same H8 (upd H8 t3 (.tup [.ref tq])) := same_upd nt3
          have h9 : (upd H8 t3 (.tup [.ref tq])) t3 = some (.tup [.ref tq]) := upd_same
          have S9 := S8.put (o := .tup [.ref tq]) nt3
          generalize upd H8 t3 (.tup [.ref tq]) = H9 at s9 h9 S9
          refine ⟨t2, t3, _, _, rfl, rfl, SqT.of (s9 _ _ h28), SqT.of h9, (fun z => nomatch z), by show 3 ≤ sizeLine; decide, (fun z => nomatch z), fun _ r nr => ?_⟩
          have S10 := S9.put (o := .tup ([.str "tuple", .str nm] ++ [.ref tq])) nr
          have h10 : (upd H9 r (.tup ([.str "tuple", .str nm] ++ [.ref tq]))) r = some (.tup [.str "tuple", .str nm, .ref tq]) := upd_same
          have s10 : Same H9 (upd H9 r (.tup ([.str "tuple", .str nm] ++ [.ref tq]))) := same_upd nr
          generalize upd H9 r (.tup ([.str "tuple", .str nm] ++ [.ref tq])) = H10 at S10 h10 s10
          have sb10 : SameBut s H5 H10 := (((SameBut.of s12).trans g4).trans (SameBut.of s8)).trans ((SameBut.of s9).trans (SameBut.of s10))
          refine ⟨_, rfl, .inl ⟨rfl, _, SqL.of (sb10 _ _ nS.1.symm h1)⟩, _, rfl, rl, _, _, rfl, rfl, sb10 _ _ nS.1.symm h1, by rw [List.length_map, h2.len, h3]; exact small_size (by omega), ?_⟩
          exact fin r (.tup nm qs) H10 _ ⟨tq, h10, s10 _ _ (s9 _ _ h8)⟩ ⟨qs, rfl, g2, g3⟩ sb10 S10 (fun b nb o e => sb10 b o nb e)
      · have e1 : word nd ≠ "tuple" := fun z => e (decide_eq_true (by rw [z]))
        refine ⟨_, rfl, .inl ⟨rfl, _, SqL.of h1⟩, _, rfl, rl, _, _, rfl, rfl, h1, by rw [List.length_map, h2.len, h3]; exact small_size (by omega), ?_⟩
        exact fin b nd H5 _ hnd (rel_leaf e1) (SameBut.refl _ _) S5 (fun _ _ _ e => e)
    · rintro σ H5 ⟨y4, y5, y6, as, T, rfl, h1, h2, h3, h4, h5, S5⟩
      refine ⟨_, rfl, .inl ⟨rl, _, rfl, SqL.of h1, fun b nb => ?_⟩⟩
      have t6 : TK H5 (upd H5 b (.tup (as.map V.ref))) := TK.of (same_upd nb)
      have tw : Lw.Twice G T := ⟨h3, fun j hj => by rw [h3]; exact h4 j (by omega)⟩
      exact q b T _ ⟨as, upd_same, h2.keep t6⟩ tw ⟨tw.ok ok.ok, by omega, fun j hj => rel_ok (h4 j (by omega)) (ok.nodes _ (Nat.mod_lt _ hpos))⟩ (h5.trans (SameBut.of (same_upd nb))) (S5.put nb)
end
end LwW
set_option maxHeartbeats 4000000
namespace LwW
open PySem PySem.Spec PyProof.Rows L2 LwR
abbrev sTn : Stmt := topS 30
theorem scTn : FnScope ["_law_stream_here", "_law_graph_here", "_law_places", "_law_k", "_law_at", "_law_rows", "_law_node_here", "_law_part"] ["_law_stream_here", "_law_graph_here"] (defScope sTn) := ⟨rfl, rfl, rfl, by decide +kernel, rfl, by decide +kernel, by decide +kernel⟩
def plc0 (n : Nat) : List Nat := (List.range (n - 1)).map fun i => 1 + i
theorem plc0_nd (n : Nat) : (plc0 n).Nodup := by
  unfold plc0
  exact List.pairwise_map.mpr (List.nodup_range.imp (fun h => by omega))
theorem plc0_mem {n x : Nat} (h : x ∈ plc0 n) : 1 ≤ x ∧ x < n := by
  unfold plc0 at h
  obtain ⟨i, hi, rfl⟩ := List.mem_map.mp h
  have := List.mem_range.mp hi
  omega
theorem plc0_len (n : Nat) : (plc0 n).length = n - 1 := by unfold plc0; simp
theorem rgV_plc (n : Nat) : rgV 1 ((n : Nat) : Int) = intsV (plc0 n) := by
  unfold rgV plc0 intsV
  rw [List.map_map]
  have e : (((n : Nat) : Int) - 1).toNat = n - 1 := by omega
  rw [e]
  congr 1
theorem mapP_leaf {nd : Nd} (h : word nd ≠ "tuple") (f : Nat → Nat) : nd.mapP f = nd := by
  cases nd with
  | tup s ps => exact absurd rfl h
  | _ => rfl
theorem at_set_same {O : Gr} {x : Nat} {nd : Nd} (h : x < O.length) : Lw.at_ (O.set x nd) x = nd := Lw.at_get (List.getElem?_set_self h)
theorem at_set_ne {O : Gr} {x y : Nat} {nd : Nd} (h : x ≠ y) : Lw.at_ (O.set x nd) y = Lw.at_ O y := by
  unfold Lw.at_
  rw [List.getD_eq_getElem?_getD, List.getD_eq_getElem?_getD, List.getElem?_set_ne h]
def unref : V → Addr
  | .ref b => b
  | _ => 0
section
variable {P : Program} {w : World} {K : PySem.W.Frag} {mg : Str → Option Value} {base : Heap}
def spTn : Sp := fun vs H Q _ => ∃ (s l a : Addr) (T : Gr), vs = [.ref s, .ref a] ∧ StrV H s l ∧ GrV H a T ∧ Gok T ∧ T.length ≤ 20 ∧ ∀ (b : Addr) (O : Gr) (pl : List Nat) H', GrV H' b O → Lw.Turned T O pl → Gok O → SameBut s H H' → StrV H' s l → Q (.ref b) H'
theorem ok_tn {f fD : Addr} {fd fdD : FuncData} {k : Nat} (F : Fun K "_law_turned" "_law_turned" sTn f fd) (B : Blt mg)
    (GD : FnOk P w K mg base CX0 (k + 1) fD fdD ["_law_stream_here", "_law_many"] spDraw) (kD : PySem.W.keepIn K (.ref fD) = true) (bD : Binds K fdD ["_law_stream_here", "_law_many"] []) (gD : mg "_law_draw" = some (.ref fD)) :
    FnOk P w K mg base CX0 (k + 2) f fd ["_law_stream_here", "_law_graph_here"] spTn := by
  refine F.ok scTn (fun vs H Q E h => ?_) (fun cdv A outer s0 H vs Q E hr h => ?_)
  · obtain ⟨s, l, a, T, rfl, _⟩ := h
    rfl
  · obtain ⟨s, l, a, T, rfl, hS, hT, ok, few, q⟩ := h
    refine ⟨_, pss_cons (ps_set (i := 2) scTn.nd rfl (.inr rfl) (pe_listRg (by rfl) (by rfl) B.list (prg_2 (by rfl) B.range pe_int (pe_callB call_len_seq (by rfl) B.len PySem.boot_len (pa_cons (pv 1) pa_nil)))))
      (pss_cons (ps_for PassesOwn.never rfl (pi_range1 (by rfl) B.range (pa_cons (pe_callB call_len_seq (by rfl) B.len PySem.boot_len (pa_cons (pv 2) pa_nil)) pa_nil)) (pg_name (i := 3) scTn.nd rfl (.inl rfl))
        (pss_cons (ps_set (i := 4) scTn.nd rfl (.inl rfl) (pe_call GD hr (by rfl) gD kD bD .nil pass0 (pa_cons (pv 0) (pa_cons (pe_callB call_len_seq (by rfl) B.len PySem.boot_len (pa_cons (pv 2) pa_nil)) pa_nil))))
        (pss_one (ps_asg (pe_tup (pa_cons (pe_ix ix_list (pv 2) (pv 4) (fun _ _ => rfl)) (pa_cons (pe_ix ix_list (pv 2) (pv 3) (fun _ _ => rfl)) pa_nil))) (pg_tup rfl (pgs_cons (pg_sub (pv 2) (pv 3) set_list) (pgs_cons (pg_sub (pv 2) (pv 4) set_list) pgs_nil)))))))
      (pss_cons (ps_set (i := 2) scTn.nd rfl (.inr rfl) (pe_op op_cat (pe_lst (pa_cons pe_int pa_nil)) (pv 2)))
      (pss_cons (ps_set (i := 5) scTn.nd rfl (.inl rfl) (pe_op op_rep (pe_lst (pa_cons pe_non pa_nil)) (pe_callB call_len_seq (by rfl) B.len PySem.boot_len (pa_cons (pv 1) pa_nil))))
      (pss_cons (ps_for PassesOwn.never rfl (pi_range1 (by rfl) B.range (pa_cons (pe_callB call_len_seq (by rfl) B.len PySem.boot_len (pa_cons (pv 1) pa_nil)) pa_nil)) (pg_name (i := 3) scTn.nd rfl (.inl rfl))
        (pss_cons (ps_set (i := 6) scTn.nd rfl (.inl rfl) (pe_ix ix_tup (pv 1) (pv 3) (fun _ _ => rfl)))
        (pss_cons (ps_if (pt_cmpR op_eq (pe_ix ix_tup (pv 6) pe_int (fun _ _ => rfl)) pe_str (nomark _))
          (pss_one (ps_set (i := 6) scTn.nd rfl (.inl rfl) (pe_op op_catT (pe_slice sl_tupA (pv 6) po_none (po_some pe_int))
            (pe_tup (pa_cons (pe_tupleOf (by rfl) B.tuple (pe_lc (own := [("_law_part", 7)]) (g := gName 7) (tt := tYes) rfl scTn.nd (pi_tup (pe_ix ix_tup (pv 6) pe_int (fun _ _ => rfl)))
              (blkOk_by (N := ["_law_stream_here", "_law_graph_here", "_law_places", "_law_k", "_law_at", "_law_rows", "_law_node_here", "_law_part"]) (sc := defScope sTn) (by decide +kernel)) (fun _ _ _ _ _ => pg_name (i := 7) scTn.nd rfl (Or.inl rfl)) (fun _ _ _ _ _ => pts_nil)
              (fun _ _ _ _ _ => pe_ix (r := rIxL K) ix_list (pv 2) (pv 7) (fun _ _ => rfl)))) pa_nil))))) pss_nil)
        (pss_one (ps_asg (pv 6) (pg_sub (pv 5) (pe_ix ix_list (pv 2) (pv 3) (fun _ _ => rfl)) set_list))))))
      (pss_one (ps_ret (pe_tupleOf (by rfl) B.tuple (pv 5)))))))), ?_⟩
    obtain ⟨ls, ha, hls⟩ := hT
    have hmap : (ls.map V.ref).length = T.length := by rw [List.length_map, hls.len]
    have hpos := ok.ok.pos
    refine ⟨_, rfl, a, _, rfl, .inr (SqT.of ha), _, _, rfl, rfl, ?_⟩
    rw [hmap]
    refine ⟨RgOk.of_le (by decide) (by omega) (by decide) (by omega), fun pl npl => ?_⟩
    rw [rgV_plc]
    have nS := hS.ne npl
    refine ⟨_, rfl, pl, _, rfl, .inl (SqL.of upd_same), _, rfl, ?_⟩
    rw [intsV_len, plc0_len]
    refine ⟨by omega, by omega, ?_⟩
    rw [Int.toNat_natCast]
    refine for_range (lo := 0) (n := T.length - 1) (fun i σ H5 => ∃ (y3 y4 : Option V) (Ls : List Nat), σ = [some (.ref s), some (.ref a), some (.ref pl), y3, y4, none, none, none] ∧ H5 pl = some (.lst (intsV Ls)) ∧ Ls.Perm (plc0 T.length) ∧ SameBut s H H5 ∧ StrV H5 s l) ?_ ?_ ?_
    · exact ⟨none, none, plc0 T.length, rfl, upd_same, .refl _, SameBut.of (same_upd npl), hS.put npl⟩
    · rintro i σ H5 hi ⟨y3, y4, Ls, rfl, h1, h2, h3, S5⟩
      rw [Int.zero_add]
      have hLs : Ls.length = T.length - 1 := by rw [h2.length_eq, plc0_len]
      refine ⟨_, rfl, _, rfl, pl, _, rfl, .inl (SqL.of h1), ?_⟩
      rw [intsV_len, hLs]
      refine ⟨s, l, _, rfl, S5, by omega, by omega, fun r H6 d0 d1 sb6 S6 => ?_⟩
      obtain ⟨j, rfl, hj⟩ := nat_of d0 d1
      have hj' : j < Ls.length := by omega
      have hi' : i < Ls.length := by omega
      have hp6 := sb6 _ _ nS.1.symm h1
      have gi := intsV_get (List.getElem?_eq_getElem hi')
      have gj := intsV_get (List.getElem?_eq_getElem hj')
      refine ⟨_, rfl, _, rfl, pl, _, _, _, rfl, rfl, SqL.of hp6, atI_nat gj, _, rfl, _, rfl, pl, _, _, _, rfl, rfl, SqL.of hp6, atI_nat gi, by show 2 ≤ sizeLine; decide, fun t nt => ?_⟩
      have nSt := S6.ne nt
      have npt : pl ≠ t := ne_of_none hp6 nt
      refine ⟨t, _, rfl, SqT.of upd_same, rfl, _, _, rfl, _, rfl, _, rfl, pl, _, _, i, rfl, rfl, (upd_ne npt).trans hp6, by rw [intsV_len]; exact ixN_nat hi', ?_⟩
      refine ⟨_, _, rfl, _, rfl, _, rfl, pl, _, _, j, rfl, rfl, upd_same, by rw [List.length_set, intsV_len]; exact ixN_nat hj', rfl, ?_⟩
      have eset : ((intsV Ls).set i (V.int (Ls[j] : Nat))).set j (V.int (Ls[i] : Nat)) = intsV ((Ls.set i Ls[j]).set j Ls[i]) := by
        unfold intsV
        rw [List.map_set, List.map_set]
      rw [eset]
      refine ⟨_, _, (Ls.set i Ls[j]).set j Ls[i], rfl, upd_same, (List.set_set_perm hi' hj').trans h2, ?_, ?_⟩
      · exact (((h3.trans sb6).trans (SameBut.of (same_upd nt))).putNew npl).putNew npl
      · exact ((S6.put nt).other nS).other nS
    · rintro σ H5 ⟨y3, y4, Ls, rfl, h1, h2, h3, S5⟩
      have hLs : Ls.length = T.length - 1 := by rw [h2.length_eq, plc0_len]
      refine ⟨by show 1 ≤ sizeLine; decide, fun z nz => ?_⟩
      have npz : pl ≠ z := ne_of_none h1 nz
      refine ⟨_, rfl, z, pl, _, _, rfl, rfl, upd_same, (upd_ne npz).trans h1, ?_, fun ql nql => ?_⟩
      · rw [intsV_len, hLs]; exact small_sizeL (by show 1 + _ ≤ 100000; omega)
      have S6 := (S5.put (o := .lst [.int 0]) nz).put (o := .lst ([.int 0] ++ intsV Ls)) nql
      have sb6 : SameBut s H (upd (upd H5 z (.lst [.int 0])) ql (.lst ([.int 0] ++ intsV Ls))) := (h3.trans (SameBut.of (same_upd nz))).trans (SameBut.of (same_upd nql))
      have hq6 : (upd (upd H5 z (.lst [.int 0])) ql (.lst ([.int 0] ++ intsV Ls))) ql = some (.lst (intsV (0 :: Ls))) := upd_same
      have nSq := (S5.put (o := .lst [.int 0]) nz).ne nql
      generalize upd (upd H5 z (.lst [.int 0])) ql (.lst ([.int 0] ++ intsV Ls)) = H6 at S6 sb6 hq6
      have hP : (0 :: Ls).length = T.length := by rw [List.length_cons, hLs]; omega
      have hPlt : ∀ x ∈ (0 :: Ls), x < T.length := fun x hx => by
        rcases List.mem_cons.mp hx with e | e
        · omega
        · exact (plc0_mem (h2.mem_iff.mp e)).2
      have hPnd : (0 :: Ls).Nodup := List.nodup_cons.mpr ⟨fun hx => by have := (plc0_mem (h2.mem_iff.mp hx)).1; omega, h2.nodup_iff.mpr (plc0_nd _)⟩
      have hP0 : (0 :: Ls)[0]? = some 0 := rfl
      generalize (0 :: Ls) = PL at hq6 hP hPlt hPnd hP0
      refine ⟨by show 1 ≤ sizeLine; decide, fun nn nnn => ?_⟩
      have ha6 := (hS.tk sb6) _ _ ha
      refine ⟨_, rfl, a, _, rfl, .inr (SqT.of ((same_upd nnn) _ _ ha6)), nn, _, _, rfl, rfl, upd_same, by rw [hmap]; omega, by rw [hmap]; omega, by rw [hmap, Int.toNat_natCast, List.length_singleton, Nat.one_mul]; exact small_sizeL (by omega), fun rl nrl => ?_⟩
      rw [hmap, Int.toNat_natCast, flat_rep]
      have S7 := S6.put (o := .lst [.non]) nnn
      have sb7 : SameBut s H (upd H6 nn (.lst [.non])) := sb6.trans (SameBut.of (same_upd nnn))
      have hq7 := (same_upd (o := .lst [.non]) nnn) _ _ hq6
      generalize upd H6 nn (.lst [.non]) = H7 at S7 sb7 hq7 nrl
      have nrl0 : ∀ {b o}, b ≠ s → H b = some o → b ≠ rl := fun nb e => ne_of_none (sb7 _ _ nb e) nrl
      have nSr := S7.ne nrl
      have nqr : ql ≠ rl := ne_of_none hq7 nrl
      have S8 := S7.put (o := .lst (List.replicate T.length V.non)) nrl
      have sb8 : SameBut s H (upd H7 rl (.lst (List.replicate T.length V.non))) := sb7.trans (SameBut.of (same_upd nrl))
      have hq8 := (same_upd (o := .lst (List.replicate T.length V.non)) nrl) _ _ hq7
      have hr8 : (upd H7 rl (.lst (List.replicate T.length V.non))) rl = some (.lst (List.replicate T.length V.non)) := upd_same
      generalize upd H7 rl (.lst (List.replicate T.length V.non)) = H8 at S8 sb8 hq8 hr8
      have nqs : ql ≠ s := nSq.1.symm
      have hrl0 : H rl = none := by
        cases e : H rl with
        | none => rfl
        | some o => exact absurd rfl (nrl0 nSr.1.symm e)
      have ha8 := (hS.tk sb8) _ _ ha
      refine ⟨_, rfl, a, _, rfl, .inr (SqT.of ha8), _, rfl, ?_⟩
      rw [hmap]
      refine ⟨by omega, by omega, ?_⟩
      rw [Int.toNat_natCast]
      refine for_range (lo := 0) (n := T.length) (fun i σ H9 => ∃ (y3 y6 y7 : Option V) (R : List V) (O : Gr), σ = [some (.ref s), some (.ref a), some (.ref ql), y3, y4, some (.ref rl), y6, y7] ∧ H9 rl = some (.lst R) ∧ R.length = T.length ∧ O.length = T.length ∧
        (∀ (k x : Nat), k < i → PL[k]? = some x → ∃ b, R[x]? = some (.ref b) ∧ NodeV H9 b (Lw.at_ O x) ∧ Lw.at_ O x = (Lw.at_ T k).mapP fun p => PL.getD p 0) ∧ SameBut s H H9 ∧ H9 ql = some (.lst (intsV PL)) ∧ StrV H9 s l) ?_ ?_ ?_
      · exact ⟨y3, none, none, List.replicate T.length V.non, List.replicate T.length (.var 0), rfl, hr8, List.length_replicate, List.length_replicate, (fun k x hk => absurd hk (Nat.not_lt_zero _)), sb8, hq8, S8⟩
      · rintro i σ H9 hi ⟨y3, y6, y7, R, O, rfl, r1, r2, r3, r4, r5, r6, S9⟩
        rw [Int.zero_add]
        have tk9 := hS.tk r5
        obtain ⟨b, hb⟩ : ∃ b, ls[i]? = some b := ⟨_, List.getElem?_eq_getElem (by rw [hls.len]; exact hi)⟩
        have hnd := (hls.node _ b hb).keep tk9
        have hok := ok.nodes _ hi
        have hpl := ok.ok.parts _ hi
        generalize hndE : Lw.at_ T i = nd at hnd hok hpl
        obtain ⟨z, hi1, hq⟩ := hnd.items
        obtain ⟨x, hx⟩ : ∃ x, PL[i]? = some x := ⟨_, List.getElem?_eq_getElem (by omega)⟩
        have hxl : x < T.length := hPlt x (List.mem_of_getElem? hx)
        have fin : ∀ (r : Addr) (nd' : Nd) (H10 : Hp) (y7 : Option V), NodeV H10 r nd' → nd' = nd.mapP (fun p => PL.getD p 0) → SameBut s H9 H10 → StrV H10 s l →
            ∃ (y3' y6' y7' : Option V) (R' : List V) (O' : Gr), [some (.ref s), some (.ref a), some (.ref ql), some (.int (i : Nat)), y4, some (.ref rl), some (.ref r), y7] = [some (.ref s), some (.ref a), some (.ref ql), y3', y4, some (.ref rl), y6', y7'] ∧ (upd H10 rl (.lst (R.set x (.ref r)))) rl = some (.lst R') ∧ R'.length = T.length ∧ O'.length = T.length ∧
        (∀ (k u : Nat), k < i + 1 → PL[k]? = some u → ∃ b, R'[u]? = some (.ref b) ∧ NodeV (upd H10 rl (.lst (R.set x (.ref r)))) b (Lw.at_ O' u) ∧ Lw.at_ O' u = (Lw.at_ T k).mapP fun p => PL.getD p 0) ∧ SameBut s H (upd H10 rl (.lst (R.set x (.ref r)))) ∧ (upd H10 rl (.lst (R.set x (.ref r)))) ql = some (.lst (intsV PL)) ∧ StrV (upd H10 rl (.lst (R.set x (.ref r)))) s l := fun r nd' H10 y7 g1 g2 g3 g4 => by
          have hr10 := g3 _ _ nSr.1.symm r1
          have t10 : TK H10 (upd H10 rl (.lst (R.set x (.ref r)))) := sameBut_upd.tk hr10 (fun xs z => nomatch z)
          refine ⟨some (.int (i : Nat)), some (.ref r), y7, R.set x (.ref r), O.set x nd', rfl, upd_same, by rw [List.length_set, r2], by rw [List.length_set, r3], fun k x' hk hx' => ?_, (r5.trans g3).putNew hrl0, (upd_ne nqr).trans (g3 _ _ nqs r6), g4.other nSr⟩
          by_cases c : k = i
          · subst c
            rw [hx] at hx'
            cases hx'
            rw [at_set_same (by omega)]
            exact ⟨r, List.getElem?_set_self (by omega), g1.keep t10, by rw [hndE]; exact g2⟩
          · have nx : x ≠ x' := fun e => by
              subst e
              obtain ⟨h1', e1⟩ := List.getElem?_eq_some_iff.mp hx
              obtain ⟨h2', e2⟩ := List.getElem?_eq_some_iff.mp hx'
              exact c ((List.getElem_inj hPnd).mp (e2.trans e1.symm))
            obtain ⟨b', e1, e2, e3⟩ := r4 k x' (by omega) hx'
            rw [at_set_ne nx]
            exact ⟨b', by rw [List.getElem?_set_ne nx]; exact e1, (e2.keep (S9.tk g3)).keep t10, e3⟩
        refine ⟨_, rfl, _, rfl, a, _, _, .ref b, rfl, rfl, SqT.of (tk9 _ _ ha), atI_nat (map_ref_get hb), ?_⟩
        refine ⟨_, rfl, b, _, 0, _, rfl, rfl, SqT.of hi1, atI_nat (j := 0) (items0 z nd), rfl, _, rfl, ite2 (fun e => ?_) (fun e => ?_)⟩
        · have e1 : word nd = "tuple" := V.str.inj (of_decide_eq_true e)
          obtain ⟨nm, ps, rfl⟩ := (word_tup nd).mp e1
          have hq' := hq _ _ rfl
          refine ⟨_, rfl, _, rfl, b, [.str "tuple", .str nm, .ref z], rfl, SqT.of hi1, (fun hh => absurd (show min 2 3 = 3 from hh.2) (by decide)), fun _ t2 nt2 => ?_⟩
          have h12 : (upd H9 t2 (.tup [.str "tuple", .str nm])) t2 = some (.tup [.str "tuple", .str nm]) := upd_same
          have s12 : Same H9 (upd H9 t2 (.tup [.str "tuple", .str nm])) := same_upd nt2
          have S12 := S9.put (o := .tup [.str "tuple", .str nm]) nt2
          have ecut : cutV [.str "tuple", .str nm, .ref z] none (some 2) = [.str "tuple", .str nm] := rfl
          rw [ecut]
          have hq12 := s12 _ _ r6
          have hr12 := s12 _ _ r1
          generalize upd H9 t2 (.tup [.str "tuple", .str nm]) = H10 at h12 s12 S12 hq12 hr12
          refine ⟨_, rfl, b, _, 2, .ref z, rfl, rfl, SqT.of (s12 _ _ hi1), atI_nat (j := 2) rfl, z, rfl, ⟨_, SqT.of (s12 _ _ hq')⟩, fun D nD => ?_⟩
          have nqD : ql ≠ D := ne_of_none hq12 nD
          refine lc_tup (K := K) (a := z) (xs := intsV ps) (fun j H11 => H11 D = some (.lst (intsV ((ps.take j).map fun p => PL.getD p 0))) ∧ SameBut D H10 H11) ?_ ?_ ?_ ?_
          · exact ⟨upd_same, sameBut_upd⟩
          · rintro j H11 _ ⟨_, g2⟩
            exact SqT.of (g2 _ _ (ne_of_none (s12 _ _ hq') nD) (s12 _ _ hq'))
          · rintro j y H11 hy ⟨g1, g2⟩
            have hjl : j < ps.length := by
              have := (List.getElem?_eq_some_iff.mp hy).1
              rw [intsV_len] at this; exact this
            have gp : ps[j]? = some ps[j] := List.getElem?_eq_getElem hjl
            have ey : y = V.int ((ps[j] : Nat)) := Option.some.inj (hy.symm.trans (intsV_get gp))
            have hpj : ps[j] < T.length := hpl _ (List.getElem_mem hjl)
            generalize ps[j] = pp at gp ey hpj
            subst ey
            have gq : PL[pp]? = some (PL.getD pp 0) := by
              rw [List.getD_eq_getElem?_getD, List.getElem?_eq_getElem (by omega)]; rfl
            refine ⟨rfl, _, rfl, _, rfl, ql, _, _, _, rfl, rfl, SqL.of (g2 _ _ nqD hq12), atI_nat (intsV_get gq), _, g1, ?_, ?_, g2.trans sameBut_upd⟩
            · rw [intsV_len, List.length_map, List.length_take]; exact small_size (by have := hok.2; omega)
            · have e2 : ps.take (j + 1) = ps.take j ++ [pp] := by rw [List.take_add_one, gp]; rfl
              rw [upd_same, e2, List.map_append, intsV_append]; rfl
          · rintro H11 ⟨g1, g2⟩
            rw [intsV_len, List.take_length] at g1
            have s11 : Same H10 H11 := fun c o e => g2 c o (ne_of_none e nD) e
            refine .inl ⟨D, _, rfl, SqL.of g1, fun tq ntq => ?_⟩
            have s13 : Same H11 (upd H11 tq (.tup (intsV (ps.map fun p => PL.getD p 0)))) := same_upd ntq
            have h13 : (upd H11 tq (.tup (intsV (ps.map fun p => PL.getD p 0)))) tq = some (.tup (intsV (ps.map fun p => PL.getD p 0))) := upd_same
            generalize upd H11 tq (.tup (intsV (ps.map fun p => PL.getD p 0))) = H13 at s13 h13
            refine ⟨by show 1 ≤ sizeLine; decide, fun t3 nt3 => ?_⟩
            have s14 : Same H13 (upd H13 t3 (.tup [.ref tq])) := same_upd nt3
            have h14 : (upd H13 t3 (.tup [.ref tq])) t3 = some (.tup [.ref tq]) := upd_same
            generalize upd H13 t3 (.tup [.ref tq]) = H14 at s14 h14
            have s914 : Same H9 H14 := s12.trans (s11.trans (s13.trans s14))
            refine ⟨t2, t3, _, _, rfl, rfl, SqT.of (s14 _ _ (s13 _ _ (s11 _ _ h12))), SqT.of h14, (fun z => nomatch z), by show 3 ≤ sizeLine; decide, (fun z => nomatch z), fun _ r nr => ?_⟩
            have h15 : (upd H14 r (.tup ([.str "tuple", .str nm] ++ [.ref tq]))) r = some (.tup [.str "tuple", .str nm, .ref tq]) := upd_same
            have s15 : Same H14 (upd H14 r (.tup ([.str "tuple", .str nm] ++ [.ref tq]))) := same_upd nr
            generalize upd H14 r (.tup ([.str "tuple", .str nm] ++ [.ref tq])) = H15 at h15 s15
            have s915 : Same H9 H15 := s914.trans s15
            refine ⟨_, rfl, _, rfl, _, rfl, _, rfl, ql, _, _, _, rfl, rfl, SqL.of (s915 _ _ r6), atI_nat (intsV_get hx), rl, _, _, x, rfl, rfl, s915 _ _ r1, by rw [r2]; exact ixN_nat hxl, ?_⟩
            exact fin r (.tup nm (ps.map fun p => PL.getD p 0)) H15 _ ⟨tq, h15, s15 _ _ (s14 _ _ h13)⟩ rfl (SameBut.of s915) (S9.keep s915)
        · have e1 : word nd ≠ "tuple" := fun z => e (decide_eq_true (by rw [z]))
          refine ⟨_, rfl, _, rfl, _, rfl, _, rfl, ql, _, _, _, rfl, rfl, SqL.of r6, atI_nat (intsV_get hx), rl, _, _, x, rfl, rfl, r1, by rw [r2]; exact ixN_nat hxl, ?_⟩
          exact fin b nd H9 _ hnd (mapP_leaf e1 _).symm (SameBut.refl _ _) S9
      · rintro σ H9 ⟨y3, y6, y7, R, O, rfl, r1, r2, r3, r4, r5, r6, S9⟩
        have hall : ∀ x, x < T.length → ∃ b, R[x]? = some (.ref b) ∧ NodeV H9 b (Lw.at_ O x) := fun x hx => by
          have hm := Lw.mem_of_full hPnd hP hPlt x hx
          obtain ⟨k, hk, e⟩ := List.getElem_of_mem hm
          obtain ⟨b, e1, e2, _⟩ := r4 k x (by omega) (by rw [List.getElem?_eq_getElem hk, e])
          exact ⟨b, e1, e2⟩
        have hR : (R.map unref).map V.ref = R := by
          apply List.ext_getElem?
          intro x
          rw [List.getElem?_map, List.getElem?_map]
          by_cases hx : x < T.length
          · obtain ⟨b, e1, _⟩ := hall x hx
            rw [e1]; rfl
          · rw [List.getElem?_eq_none (by omega)]; rfl
        refine ⟨_, rfl, .inl ⟨rl, _, rfl, SqL.of r1, fun o no => ?_⟩⟩
        have t10 : TK H9 (upd H9 o (.tup R)) := TK.of (same_upd no)
        have tn : Lw.Turned T O PL := ⟨r3, hP, hP0, hPlt, hPnd, fun k x hx => (r4 k x (by have := (List.getElem?_eq_some_iff.mp hx).1; omega) hx).choose_spec.2.2⟩
        refine q o O PL _ ⟨R.map unref, by rw [upd_same, hR], ⟨by rw [List.length_map, r2, r3], fun x b hb => ?_⟩⟩ tn ⟨tn.ok ok.ok, by omega, fun x hx => ?_⟩ (r5.trans (SameBut.of (same_upd no))) (S9.put no)
        · have hx : x < T.length := by
            have := (List.getElem?_eq_some_iff.mp hb).1
            rw [List.length_map] at this; omega
          obtain ⟨c, e1, e2⟩ := hall x hx
          rw [List.getElem?_map, e1] at hb
          cases hb
          exact e2.keep t10
        · have hm := Lw.mem_of_full hPnd hP hPlt x (by omega)
          obtain ⟨k, hk, e⟩ := List.getElem_of_mem hm
          obtain ⟨b, _, _, e3⟩ := r4 k x (by omega) (by rw [List.getElem?_eq_getElem hk, e])
          rw [e3]
          exact (ok.nodes k (by omega)).mapP _
end
end LwW
set_option maxHeartbeats 4000000
namespace LwW
open PySem PySem.Spec PyProof.Rows L2 LwR
abbrev sGv : Stmt := topS 31
abbrev sTo : Stmt := topS 32
theorem scGv : FnScope ["_law_told_here"] ["_law_told_here"] (defScope sGv) := ⟨rfl, rfl, rfl, by decide +kernel, rfl, by decide +kernel, by decide +kernel⟩
theorem scTo : FnScope ["_law_graph_here"] ["_law_graph_here"] (defScope sTo) := ⟨rfl, rfl, rfl, by decide +kernel, rfl, by decide +kernel, by decide +kernel⟩
theorem pt_dead {X : Cx} {e : Expr} : PT X e (fun _ _ _ => False) := ⟨fun _ _ _ _ _ _ h => h.elim⟩
theorem exm_self {K : PySem.W.Frag} {S : Addr} (h1 : PySem.W.subIn K (.ref S) (.type "BaseException") = some true) (h2 : PySem.W.isClsIn K S = true) (h3 : PySem.W.typeIn K (.ref S) = some (.type "type")) (h4 : PySem.W.subIn K (.ref S) (.ref S) = some true) :
    PySem.W.exmOne K (.ref S) (.ref S) = some true := by
  have e1 : (PySem.W.subIn K (.ref S) (.type "BaseException") == some true) = true := by rw [h1] <;> rfl
  have e2 : ((PySem.W.clsIn K S).isSome && PySem.W.typeIn K (.ref S) == some (.type "type")) = true := by
    have h2' : (PySem.W.clsIn K S).isSome = true := h2
    rw [h2', h3] <;> rfl
  show (if (PySem.W.subIn K (.ref S) (.type "BaseException") == some true) = true then (if ((PySem.W.clsIn K S).isSome && PySem.W.typeIn K (.ref S) == some (.type "type")) = true then PySem.W.subIn K (.ref S) (.ref S) else none) else none) = some true
  rw [if_pos e1, if_pos e2]
  exact h4
def TellV (H : Hp) (v : V) : Option Str → Prop
  | some t => v = .str t
  | none => ∃ p, v = .ref p ∧ H p = some (.tup [.str "refused", .str "many"])
theorem TellV.keep {H H' : Hp} {v : V} {r : Option Str} (t : TK H H') (h : TellV H v r) : TellV H' v r := by
  cases r with
  | some z => exact h
  | none =>
    obtain ⟨p, e, h⟩ := h
    exact ⟨p, e, t _ _ h⟩
section
variable {P : Program} {w : World} {K : PySem.W.Frag} {mg : Str → Option Value} {base : Heap} {C X : Addr}
def spGv : Sp := fun vs H Q _ => ∃ (t : Str), vs = [.str t] ∧ Q (.str t) H
theorem ok_gv {f : Addr} {fd : FuncData} {k : Nat} (F : Fun K "_law_given" "_law_given" sGv f fd) (B : Blt mg) : FnOk P w K mg base CX0 (k + 1) f fd ["_law_told_here"] spGv := by
  refine F.ok scGv (fun vs H Q E h => ?_) (fun cdv A outer s0 H vs Q E hr h => ?_)
  · obtain ⟨t, rfl, _⟩ := h
    rfl
  · obtain ⟨t, rfl, q⟩ := h
    refine ⟨_, pss_cons (ps_if (PW.pt (pw_or (pt_cmpR op_isN (pv 0) pe_non (nomark _)) (pw_or1 (PW.pt (pw_and (pt_val (pe_callB call_isi (by rfl) B.isinst (by decide +kernel) (pa_cons (pv 0) (pa_cons (pe_bltn (v := .ty "tuple") rfl B.tuple PyProof.Rows.boot_tuple rfl) pa_nil)))) (pw_and1 pt_dead))))))
        pss_never pss_nil)
      (pss_one (ps_ret (pv 0))), ?_⟩
    refine ⟨_, rfl, rfl, _, rfl, ?_⟩
    refine ⟨_, rfl, _, _, _, _, false, rfl, .ty "tuple", .base (.str t), kit_ty (by decide +kernel), _, rfl, ?_⟩
    exact ⟨_, rfl, q⟩
def spTo (K : PySem.W.Frag) : Sp := fun vs H Q _ => ∃ (a : Addr) (G : Gr), vs = [.ref a] ∧ GrV H a G ∧ Gok G ∧ ∀ (L : Gr) (r : Option Str) (v : V) H', Lw.Least G L → PFinal L r → TellV H' v r → Same H H' → Q v H'
theorem ok_to {f fV fT : Addr} {fd fdV fdT : FuncData} {k : Nat} (F : Fun K "_law_told" "_law_told" sTo f fd) (M : Tm K mg X)
    (GV : FnOk P w K mg base CX0 (k + 1) fV fdV ["_law_told_here"] spGv) (kV : PySem.W.keepIn K (.ref fV) = true) (bV : Binds K fdV ["_law_told_here"] []) (gV : mg "_law_given" = some (.ref fV))
    (GT : FnOk P w K mg base (L2.CX P w) (k + 4) fT fdT ["graph"] (spGT K X)) (kT : PySem.W.keepIn K (.ref fT) = true) (bT : Binds K fdT ["graph"] []) (gT : mg "graph_text" = some (.ref fT)) :
    FnOk P w K mg base CX0 (k + 5) f fd ["_law_graph_here"] (spTo K) := by
  refine F.ok scTo (fun vs H Q E h => ?_) (fun cdv A outer s0 H vs Q E hr h => ?_)
  · obtain ⟨a, G, rfl, _⟩ := h
    rfl
  · obtain ⟨a, G, rfl, hG, ok, q⟩ := h
    have hr1 : Room (k + 1) (A.deeper (envOfC "_law_told" (defScope sTo) s0.heap.objs.size f cdv)) := hr.mono (by omega)
    refine ⟨_, pss_one (ps_try_only (tb := fun W => tRet (tCall spGv [] E0 (tCons (tCallS (spGT K X) (WE W) (tCons (tVar 0) tNil)) tNil))) (ts := fun _ _ _ => tRet (tTup (tCons (tC (.str "refused")) (tCons (tC (.str "many")) tNil)))) (Wout := fun _ _ _ _ => False) rfl rfl ⟨rfl, by decide, Or.inl M.gP⟩ takes0
      (fun W pn xe tk _ => pss_one (ps_ret (by exact (pe_call GV hr1 (by rfl) gV kV bV .nil pass0 (pa_cons (pe_callS GT hr (by rfl) gT kT bT (fun σ => passAt tk σ) (pa_cons (pv 0) pa_nil)) pa_nil)))))
      (fun _ _ _ _ _ _ _ => pss_one (ps_ret (by exact (pe_tup (pa_cons pe_str (pa_cons pe_str pa_nil))))))), ?_⟩
    refine ⟨_, rfl, a, G, rfl, hG, ok, fun L t H' hl hp s1 => ?_, fun L H' hl hp s1 => ?_⟩
    · exact ⟨t, rfl, q L (some t) _ H' hl hp rfl s1⟩
    · refine ⟨true, exm_self M.bP M.iP M.tP M.sP, fun _ c hc => ?_, fun z => Bool.noConfusion z⟩
      exact ⟨by show 2 ≤ sizeLine; decide, fun p np => q L none _ _ hl hp ⟨p, rfl, upd_same⟩ (s1.trans (same_upd np))⟩
end
end LwW
set_option maxHeartbeats 4000000
namespace LwW
open PySem PySem.Spec PyProof.Rows L2 LwR
def ndD : Nd → PyData
  | .var n => .tuple [.str "var", .int n]
  | .int n => .tuple [.str "int", .int n]
  | .atom s => .tuple [.str "atom", .str s]
  | .name s n => .tuple [.str "name", .str s, .int n]
  | .tup s ps => .tuple [.str "tuple", .str s, .tuple (ps.map fun (p : Nat) => PyData.int p)]
def grD (L : Gr) : PyData := .tuple (L.map ndD)
theorem ints_eqv : ∀ ps qs : List Nat, PyData.eqvAll (ps.map fun (p : Nat) => PyData.int p) (qs.map fun (p : Nat) => PyData.int p) = decide (ps = qs)
  | [], [] => by simp [PyData.eqvAll]
  | [], q :: qs => by simp [PyData.eqvAll]
  | p :: ps, [] => by simp [PyData.eqvAll]
  | p :: ps, q :: qs => by
    show (PyData.eqv (.int p) (.int q) && PyData.eqvAll (ps.map fun (p : Nat) => PyData.int p) (qs.map fun (p : Nat) => PyData.int p)) = _
    rw [ints_eqv ps qs]
    have e : PyData.eqv (.int (p : Nat)) (.int (q : Nat)) = decide (p = q) := by
      simp only [PyData.eqv]
      by_cases h : p = q
      · subst h; simp
      · have : ¬ ((p : Nat) : Int) = (q : Nat) := by omega
        simp [h, this]
    rw [e]
    by_cases h1 : p = q <;> by_cases h2 : ps = qs <;> simp [h1, h2]
theorem w1 : ¬ ("var" : Str) = "int" := by decide +kernel
theorem w2 : ¬ ("var" : Str) = "atom" := by decide +kernel
theorem w3 : ¬ ("var" : Str) = "name" := by decide +kernel
theorem w4 : ¬ ("var" : Str) = "tuple" := by decide +kernel
theorem w5 : ¬ ("int" : Str) = "atom" := by decide +kernel
theorem w6 : ¬ ("int" : Str) = "name" := by decide +kernel
theorem w7 : ¬ ("int" : Str) = "tuple" := by decide +kernel
theorem w8 : ¬ ("atom" : Str) = "name" := by decide +kernel
theorem w9 : ¬ ("atom" : Str) = "tuple" := by decide +kernel
theorem w10 : ¬ ("name" : Str) = "tuple" := by decide +kernel
theorem sb_ne {s t : Str} (h : ¬ s = t) : (s == t) = false := beq_eq_false_iff_ne.mpr h
theorem ndD_eqv (a b : Nd) : PyData.eqv (ndD a) (ndD b) = true ↔ a = b := by
  cases a <;> cases b <;> simp only [ndD, PyData.eqv, PyData.eqvAll, ints_eqv, Bool.and_true, Bool.true_and, beq_self_eq_true, Lw.Nd.var.injEq, Lw.Nd.int.injEq, Lw.Nd.atom.injEq, Lw.Nd.name.injEq, Lw.Nd.tup.injEq, reduceCtorEq, iff_false, sb_ne w1, sb_ne w2, sb_ne w3, sb_ne w4, sb_ne w5, sb_ne w6, sb_ne w7, sb_ne w8, sb_ne w9, sb_ne w10,
    sb_ne (Ne.symm w1), sb_ne (Ne.symm w2), sb_ne (Ne.symm w3), sb_ne (Ne.symm w4), sb_ne (Ne.symm w5), sb_ne (Ne.symm w6), sb_ne (Ne.symm w7), sb_ne (Ne.symm w8), sb_ne (Ne.symm w9), sb_ne (Ne.symm w10), Bool.false_and, Bool.false_eq_true, not_false_eq_true]
  all_goals simp
theorem nds_eqv : ∀ L M : Gr, PyData.eqvAll (L.map ndD) (M.map ndD) = true ↔ L = M
  | [], [] => by simp [PyData.eqvAll]
  | [], q :: qs => by simp [PyData.eqvAll]
  | p :: ps, [] => by simp [PyData.eqvAll]
  | p :: ps, q :: qs => by
    show (PyData.eqv (ndD p) (ndD q) && PyData.eqvAll (ps.map ndD) (qs.map ndD)) = true ↔ _
    rw [Bool.and_eq_true, nds_eqv ps qs, ndD_eqv, List.cons.injEq]
theorem grD_eqv (L M : Gr) : PyData.eqv (grD L) (grD M) = true ↔ L = M := by
  show PyData.eqv (.tuple (L.map ndD)) (.tuple (M.map ndD)) = true ↔ _
  simp only [PyData.eqv]
  exact nds_eqv L M
theorem ints_lay : ∀ ps : List Nat, PyData.canLayAll0 (ps.map fun (p : Nat) => PyData.int p) = true ∧ PyData.depthAll (ps.map fun (p : Nat) => PyData.int p) = 0
  | [] => ⟨by simp [PyData.canLayAll0], by simp [PyData.depthAll]⟩
  | p :: ps => by
    obtain ⟨h1, h2⟩ := ints_lay ps
    refine ⟨?_, ?_⟩
    · show (PyData.canLay0 (.int p) && PyData.canLayAll0 (ps.map fun (p : Nat) => PyData.int p)) = true
      rw [h1]; simp [PyData.canLay0]
    · show max (PyData.depth (.int p)) (PyData.depthAll (ps.map fun (p : Nat) => PyData.int p)) = 0
      rw [h2]; simp [PyData.depth]
theorem so_var : PySem.PyData.strOk ("var" : Str) = true := by decide +kernel
theorem so_int : PySem.PyData.strOk ("int" : Str) = true := by decide +kernel
theorem so_atom : PySem.PyData.strOk ("atom" : Str) = true := by decide +kernel
theorem so_name : PySem.PyData.strOk ("name" : Str) = true := by decide +kernel
theorem so_tup : PySem.PyData.strOk ("tuple" : Str) = true := by decide +kernel
theorem ndD_lay {a : Nd} (h : NdOk a) : PyData.canLay0 (ndD a) = true ∧ PyData.depth (ndD a) ≤ 2 := by
  cases a with
  | var n => exact ⟨by simp [ndD, PyData.canLay0, PyData.canLayAll0, so_var], by simp [ndD, PyData.depth, PyData.depthAll]⟩
  | int n => exact ⟨by simp [ndD, PyData.canLay0, PyData.canLayAll0, so_int], by simp [ndD, PyData.depth, PyData.depthAll]⟩
  | atom s => exact ⟨by simp [ndD, PyData.canLay0, PyData.canLayAll0, so_atom, h.2.2], by simp [ndD, PyData.depth, PyData.depthAll]⟩
  | name s n => exact ⟨by simp [ndD, PyData.canLay0, PyData.canLayAll0, so_name, h.1.2.2], by simp [ndD, PyData.depth, PyData.depthAll]⟩
  | tup s ps =>
    obtain ⟨h1, h2⟩ := ints_lay ps
    exact ⟨by simp [ndD, PyData.canLay0, PyData.canLayAll0, so_tup, h.1.2.2, h1], by simp [ndD, PyData.depth, PyData.depthAll, h2]⟩
theorem nds_lay : ∀ L : Gr, (∀ x ∈ L, NdOk x) → PyData.canLayAll0 (L.map ndD) = true ∧ PyData.depthAll (L.map ndD) ≤ 2
  | [], _ => ⟨by simp [PyData.canLayAll0], by simp [PyData.depthAll]⟩
  | p :: ps, h => by
    obtain ⟨h1, h2⟩ := nds_lay ps (fun x hx => h x (List.mem_cons_of_mem _ hx))
    obtain ⟨h3, h4⟩ := ndD_lay (h p List.mem_cons_self)
    refine ⟨?_, ?_⟩
    · show (PyData.canLay0 (ndD p) && PyData.canLayAll0 (ps.map ndD)) = true
      rw [h1, h3]; rfl
    · show max (PyData.depth (ndD p)) (PyData.depthAll (ps.map ndD)) ≤ 2
      omega
theorem grD_shaped {L : Gr} (h : Gok L) : SeqAt.shaped (grD L) = true := by
  obtain ⟨h1, h2⟩ := nds_lay L (fun x hx => by
    obtain ⟨i, hi, e⟩ := List.getElem_of_mem hx
    have := h.nodes i hi
    rw [Lw.at_get (List.getElem?_eq_getElem hi), e] at this
    exact this)
  unfold SeqAt.shaped grD
  rw [Bool.and_eq_true]
  refine ⟨?_, ?_⟩
  · simp only [PyData.canLay0]; exact h1
  · simp only [PyData.depth]
    exact decide_eq_true (by omega)
section
variable {K : PySem.W.Frag} {H : Hp}
theorem ints_dp : ∀ ps : List Nat, DpAll K H (ps.map fun (p : Nat) => V.int p) (ps.map fun (p : Nat) => PyData.int p)
  | [] => .nil
  | p :: ps => .cons (.int _) (ints_dp ps)
theorem ndD_dp {b : Addr} {nd : Nd} (h : NodeV H b nd) : Dp K H (.ref b) (ndD nd) := by
  cases nd with
  | var n => exact .tup (SqT.of h) (.cons (.str _) (.cons (.int _) .nil))
  | int n => exact .tup (SqT.of h) (.cons (.str _) (.cons (.int _) .nil))
  | atom s => exact .tup (SqT.of h) (.cons (.str _) (.cons (.str _) .nil))
  | name s n => exact .tup (SqT.of h) (.cons (.str _) (.cons (.str _) (.cons (.int _) .nil)))
  | tup s ps =>
    obtain ⟨q, h1, h2⟩ := h
    exact .tup (SqT.of h1) (.cons (.str _) (.cons (.str _) (.cons (.tup (SqT.of h2) (ints_dp ps)) .nil)))
theorem nds_dp : ∀ (as : List Addr) (L : Gr), as.length = L.length → (∀ (i : Nat) (b : Addr) (x : Nd), as[i]? = some b → L[i]? = some x → NodeV H b x) → DpAll K H (as.map V.ref) (L.map ndD)
  | [], [], _, _ => .nil
  | [], x :: L, h, _ => by cases h
  | a :: as, [], h, _ => by cases h
  | a :: as, x :: L, h, g => .cons (ndD_dp (g 0 a x rfl rfl)) (nds_dp as L (by simpa using h) (fun i b y e1 e2 => g (i + 1) b y e1 e2))
theorem grD_dp {a : Addr} {L : Gr} (h : GrV H a L) : Dp K H (.ref a) (grD L) := by
  obtain ⟨as, h1, h2⟩ := h
  exact .tup (SqT.of h1) (nds_dp as L h2.len (fun i b x e1 e2 => by
    have := h2.node i b e1
    rw [Lw.at_get e2] at this
    exact this))
end
theorem op_or {X : Cx} {f : Value → Value → Sem Value} {r1 r2 : V → V → Hp → VK → Prop} (h1 : OpR X f r1) (h2 : OpR X f r2) : OpR X f (fun x y H Q => r1 x y H Q ∨ r2 x y H Q) := by
  intro pins s σ H x y u v Q I rx ry h
  rcases h with h | h
  · exact h1 pins s σ H x y u v Q I rx ry h
  · exact h2 pins s σ H x y u v Q I rx ry h
def rCatX : V → V → Hp → VK → Prop := fun x y H Q => ∃ a b xs ys, x = .ref a ∧ y = .ref b ∧ H a = some (.tup xs) ∧ H b = some (.tup ys) ∧ xs.length + ys.length ≤ sizeLine ∧ ∀ p H', Same H H' → H' p = some (.tup (xs ++ ys)) → Q (.ref p) H'
theorem op_catX {X : Cx} : OpR X (binaryOp .Add) rCatX := by
  intro pins s σ H x y u v Q I rx ry h
  obtain ⟨a, b, xs, ys, rfl, rfl, h1, h2, hl, q⟩ := h
  refine op_catA pins s σ H _ _ u v Q I rx ry ⟨a, b, xs, ys, rfl, rfl, SqT.of h1, SqT.of h2, hl, fun e => q b H (Same.refl H) (by rw [e]; exact h2), fun _ e => q a H (Same.refl H) (by rw [e, List.append_nil]; exact h1), fun _ _ p np => q p _ (same_upd np) upd_same⟩
end LwW
set_option maxHeartbeats 8000000
namespace LwW
open PySem PySem.Spec PyProof.Rows L2 LwR
abbrev sLaw : Stmt := topS 33
theorem scLaw : FnScope ["_law_script", "_law_stream_here", "_law_graph_here", "_law_other", "_law_depth", "_law_at", "_law_third"] ["_law_script"] (defScope sLaw) := ⟨rfl, rfl, rfl, by decide +kernel, rfl, by decide +kernel, by decide +kernel⟩
structure Cal (P : Program) (w : World) (K : PySem.W.Frag) (mg : Str → Option Value) (base : Heap) (name : Str) (lvl : Nat) (ps : List Str) (sp : Sp) (f : Addr) (fd : FuncData) : Prop where
  ok : FnOk P w K mg base CX0 lvl f fd ps sp
  kp : PySem.W.keepIn K (.ref f) = true
  bi : Binds K fd ps []
  gl : mg name = some (.ref f)
theorem set_nodes {H : Hp} {as : List Addr} {O : Gr} {p : Addr} {nd : Nd} {x : Nat} (h : NodesV H as O) (hp : NodeV H p nd) : NodesV H (as.set x p) (O.set x nd) := by
  refine ⟨by rw [List.length_set, List.length_set, h.len], fun i b e => ?_⟩
  have hi : i < as.length := by
    have := (List.getElem?_eq_some_iff.mp e).1
    rw [List.length_set] at this; exact this
  by_cases c : x = i
  · subst c
    rw [List.getElem?_set_self hi] at e
    rw [at_set_same (by rw [← h.len]; exact hi)]
    cases e; exact hp
  · rw [List.getElem?_set_ne c] at e
    rw [at_set_ne c]
    exact h.node i b e
theorem cut_take (xs : List V) (i : Nat) (h : i ≤ xs.length) : cutV xs none (some ((i : Nat) : Int)) = xs.take i := by
  unfold cutV
  rw [HT.sIx_nat, HT.sIx_none, Nat.min_eq_left h, Nat.sub_zero, List.drop_zero]
theorem cut_drop (xs : List V) (i : Nat) (h : i ≤ xs.length) : cutV xs (some ((i : Nat) : Int)) none = xs.drop i := by
  unfold cutV
  rw [HT.sIx_nat, HT.sIx_none, Nat.min_eq_left h]
  exact List.take_of_length_le (by rw [List.length_drop]; exact Nat.le_refl _)
def spLaw (K : PySem.W.Frag) : Sp := fun vs H Q _ => ∃ (a : Addr) (ns : List Int), vs = [.ref a] ∧ SqL K H a (ns.map V.int) ∧ ns.length ≤ 63 ∧ ∀ H', Q (.bl true) H'
section
variable {P : Program} {w : World} {K : PySem.W.Frag} {mg : Str → Option Value} {base : Heap} {f fS fG fT fW fL fC fI fD fU fO fN : Addr} {fd fdS fdG fdT fdW fdL fdC fdI fdD fdU fdO fdN : FuncData}
theorem ok_law (F : Fun K "law" "law" sLaw f fd) (B : Blt mg)
    (CS : Cal P w K mg base "_law_stream" 5 ["_law_script"] (spStr K) fS fdS) (CG : Cal P w K mg base "_law_graph" 5 ["_law_stream_here", "_law_most"] spGr fG fdG) (CT : Cal P w K mg base "_law_turned" 5 ["_law_stream_here", "_law_graph_here"] spTn fT fdT)
    (CW : Cal P w K mg base "_law_twice" 5 ["_law_stream_here", "_law_graph_here"] spTw fW fdW) (CL : Cal P w K mg base "least" 5 ["graph"] (spLeast K) fL fdL) (CC : Cal P w K mg base "compare" 5 ["first", "second"] (spCompare K) fC fdC)
    (CI : Cal P w K mg base "is_infinite" 5 ["graph"] (spInf K) fI fdI) (CD : Cal P w K mg base "_law_draw" 5 ["_law_stream_here", "_law_many"] spDraw fD fdD) (CU : Cal P w K mg base "cut" 5 ["graph", "depth"] (spCut K) fU fdU)
    (CO : Cal P w K mg base "_law_told" 5 ["_law_graph_here"] (spTo K) fO fdO) (CN : Cal P w K mg base "_law_node" 5 ["_law_stream_here", "_law_many"] spNode fN fdN) : FnOk P w K mg base CX0 6 f fd ["_law_script"] (spLaw K) := by
  refine F.ok scLaw (fun vs H Q E h => ?_) (fun cdv A outer s0 H vs Q E hr h => ?_)
  · obtain ⟨a, ns, rfl, _⟩ := h
    rfl
  · obtain ⟨a, ns, rfl, hA, hlen, q⟩ := h
    refine ⟨_, pss_cons (ps_set (i := 1) scLaw.nd rfl (.inl rfl) (pe_call CS.ok hr (by rfl) CS.gl CS.kp CS.bi .nil pass0 (pa_cons (pv 0) pa_nil)))
      (pss_cons (ps_set (i := 2) scLaw.nd rfl (.inl rfl) (pe_call CG.ok hr (by rfl) CG.gl CG.kp CG.bi .nil pass0 (pa_cons (pv 1) (pa_cons pe_int pa_nil))))
      (pss_cons (ps_set (i := 3) scLaw.nd rfl (.inl rfl) (pe_call CT.ok hr (by rfl) CT.gl CT.kp CT.bi .nil pass0 (pa_cons (pv 1) (pa_cons (pe_call CW.ok hr (by rfl) CW.gl CW.kp CW.bi .nil pass0 (pa_cons (pv 1) (pa_cons (pv 2) pa_nil))) pa_nil))))
      (pss_cons (ps_if (PW.pt (pw_or (pt_cmpR (op_neD hr.units) (pe_call CL.ok hr (by rfl) CL.gl CL.kp CL.bi .nil pass0 (pa_cons (pv 3) pa_nil)) (pe_call CL.ok hr (by rfl) CL.gl CL.kp CL.bi .nil pass0 (pa_cons (pv 2) pa_nil)) (nomark _))
          (pw_or (pt_cmpR op_ne (pe_call CC.ok hr (by rfl) CC.gl CC.kp CC.bi .nil pass0 (pa_cons (pv 2) (pa_cons (pv 3) pa_nil))) pe_int (nomark _))
          (pw_or1 (pt_cmpR op_ne (pe_call CI.ok hr (by rfl) CI.gl CI.kp CI.bi .nil pass0 (pa_cons (pv 3) pa_nil)) (pe_call CI.ok hr (by rfl) CI.gl CI.kp CI.bi .nil pass0 (pa_cons (pv 2) pa_nil)) (nomark _))))))
        pss_never pss_nil)
      (pss_cons (ps_set (i := 4) scLaw.nd rfl (.inl rfl) (pe_call CD.ok hr (by rfl) CD.gl CD.kp CD.bi .nil pass0 (pa_cons (pv 1) (pa_cons pe_int pa_nil))))
      (pss_cons (ps_if (pt_cmpR (op_neD hr.units) (pe_call CU.ok hr (by rfl) CU.gl CU.kp CU.bi .nil pass0 (pa_cons (pv 3) (pa_cons (pv 4) pa_nil))) (pe_call CU.ok hr (by rfl) CU.gl CU.kp CU.bi .nil pass0 (pa_cons (pv 2) (pa_cons (pv 4) pa_nil))) (nomark _)) pss_never pss_nil)
      (pss_cons (ps_if (pt_cmpR (op_or op_ne (op_neD hr.units)) (pe_call CO.ok hr (by rfl) CO.gl CO.kp CO.bi .nil pass0 (pa_cons (pv 3) pa_nil)) (pe_call CO.ok hr (by rfl) CO.gl CO.kp CO.bi .nil pass0 (pa_cons (pv 2) pa_nil)) (nomark _)) pss_never pss_nil)
      (pss_cons (ps_set (i := 5) scLaw.nd rfl (.inl rfl) (pe_call CD.ok hr (by rfl) CD.gl CD.kp CD.bi .nil pass0 (pa_cons (pv 1) (pa_cons (pe_callB call_len_seq (by rfl) B.len PySem.boot_len (pa_cons (pv 3) pa_nil)) pa_nil))))
      (pss_cons (ps_set (i := 6) scLaw.nd rfl (.inl rfl) (pe_op op_catX (pe_op op_catX (pe_slice sl_tupA (pv 3) po_none (po_some (pv 5)))
          (pe_tup (pa_cons (pe_call CN.ok hr (by rfl) CN.gl CN.kp CN.bi .nil pass0 (pa_cons (pv 1) (pa_cons (pe_callB call_len_seq (by rfl) B.len PySem.boot_len (pa_cons (pv 3) pa_nil)) pa_nil))) pa_nil)))
          (pe_slice sl_tupA (pv 3) (po_some (pe_op op_add (pv 5) pe_int)) po_none)))
      (pss_one (ps_ret (pe_cmpR op_eq (pe_cmpR (op_eqD hr.units) (pe_call CL.ok hr (by rfl) CL.gl CL.kp CL.bi .nil pass0 (pa_cons (pv 6) pa_nil)) (pe_call CL.ok hr (by rfl) CL.gl CL.kp CL.bi .nil pass0 (pa_cons (pv 2) pa_nil)) (nomark _))
          (pe_cmpR op_eq (pe_call CC.ok hr (by rfl) CC.gl CC.kp CC.bi .nil pass0 (pa_cons (pv 6) (pa_cons (pv 2) pa_nil))) pe_int (nomark _)) (nomark _)))))))))))), ?_⟩
    refine ⟨_, rfl, a, ns, rfl, hA, hlen, fun s l H1 S1 => ?_⟩
    refine ⟨_, rfl, s, l, rfl, S1, fun ga G H2 hG okG lenG sb2 S2 => ?_⟩
    refine ⟨_, rfl, _, rfl, _, rfl, s, l, ga, G, rfl, S2, hG, okG, lenG, fun ta T H3 hT tw okT sb3 S3 => ?_⟩
    have lenT := tw.len
    refine ⟨s, l, ta, T, rfl, S3, hT, okT, by omega, fun oa O pl H4 hO tn okO sb4 S4 => ?_⟩
    have lenO := tn.len
    have hG4 : GrV H4 ga G := hG.keep (S2.tk (sb3.trans sb4))
    have bis : Lw.Bis G O 0 0 := (tw.bis okG.ok).trans (tn.bis okT.ok)
    clear hG hT sb2 sb3 sb4 S1 S2 S3
    refine ⟨_, rfl, oa, O, rfl, hO, okO, fun lo Lo H5 s5 hLo llo => ?_⟩
    refine ⟨_, rfl, ga, G, rfl, hG4.keep (TK.of s5), okG, fun lg Lg H6 s6 hLg llg => ?_⟩
    have eL : Lo = Lg := (Lw.least_iff okO.ok okG.ok llo llg).mpr bis.symm
    subst eL
    have okL := least_ok okG llg
    refine ⟨grD Lo, grD Lo, grD_dp (hLo.keep (TK.of s6)), grD_dp hLg, grD_shaped okL, grD_shaped okL, _, rfl, ?_⟩
    rw [(grD_eqv Lo Lo).mpr rfl]
    have s46 : Same H4 H6 := s5.trans s6
    refine ⟨_, rfl, _, rfl, ga, oa, G, O, rfl, hG4.keep (TK.of s46), hO.keep (TK.of s46), okG, okO, fun r H7 s7 hr0 => ?_⟩
    have er : r = 0 := hr0.mpr bis
    subst er
    refine ⟨rfl, _, rfl, ?_⟩
    have s47 := s46.trans s7
    refine ⟨_, rfl, oa, O, rfl, hO.keep (TK.of s47), okO, fun b1 M1 H8 s8 l1 i1 => ?_⟩
    refine ⟨_, rfl, ga, G, rfl, hG4.keep (TK.of (s47.trans s8)), okG, fun b2 M2 H9 s9 l2 i2 => ?_⟩
    have eM : M1 = M2 := (Lw.least_iff okO.ok okG.ok l1 l2).mpr bis.symm
    subst eM
    have eb : b1 = b2 := i1.unique i2
    subst eb
    refine ⟨by cases b1 <;> rfl, _, rfl, ?_⟩
    rw [decide_eq_true (rfl : V.bl b1 = V.bl b1)]
    have s49 : Same H4 H9 := (s47.trans s8).trans s9
    have S9 := S4.keep s49
    have hO9 := hO.keep (TK.of s49)
    have hG9 := hG4.keep (TK.of s49)
    clear hLo hLg hO hG4 S4
    refine ⟨_, rfl, s, l, 4, rfl, S9, by decide, by decide, fun r H10 r0 r4 sb10 S10 => ?_⟩
    obtain ⟨d, rfl, hd⟩ := nat_of r0 r4
    have hO10 := hO9.keep (S9.tk sb10)
    have hG10 := hG9.keep (S9.tk sb10)
    refine ⟨_, rfl, _, rfl, oa, O, d, rfl, hO10, okO, by omega, by omega, fun p1 C1 L1 H11 s11 c1 okC1 lC1 hL1 => ?_⟩
    refine ⟨_, rfl, _, rfl, ga, G, d, rfl, hG10.keep (TK.of s11), okG, by omega, by omega, fun p2 C2 L2' H12 s12 c2 okC2 lC2 hL2 => ?_⟩
    have eC : L1 = L2' := (Lw.least_iff okC1.ok okC2.ok lC1 lC2).mpr (Lw.cut_bis bis.symm c1 c2)
    subst eC
    have okLC := least_ok okC1 lC1
    refine ⟨grD L1, grD L1, grD_dp (hL1.keep (TK.of s12)), grD_dp hL2, grD_shaped okLC, grD_shaped okLC, _, rfl, ?_⟩
    rw [(grD_eqv L1 L1).mpr rfl]
    have s1012 : Same H10 H12 := s11.trans s12
    refine ⟨_, rfl, oa, O, rfl, hO10.keep (TK.of s1012), okO, fun La ra va H13 la pa ta' s13 => ?_⟩
    refine ⟨_, rfl, ga, G, rfl, hG10.keep (TK.of (s1012.trans s13)), okG, fun Lb rb vb H14 lb pb tb s14 => ?_⟩
    have eLL : La = Lb := (Lw.least_iff okO.ok okG.ok la lb).mpr bis.symm
    subst eLL
    have er : ra = rb := pa.unique pb
    subst er
    have s1014 : Same H10 H14 := (s1012.trans s13).trans s14
    have ta14 := ta'.keep (TK.of s14)
    have S14 := S10.keep s1014
    have hO14 := hO10.keep (TK.of s1014)
    have hG14 := hG10.keep (TK.of s1014)
    have hne : ∀ Q' : VK, Q' (.bl false) H14 → (rNe va vb H14 Q' ∨ rNeD K va vb H14 Q') := fun Q' h => by
      cases ra with
      | some t =>
        have e1 : va = .str t := ta14
        have e2 : vb = .str t := tb
        subst e1 e2
        exact .inl ⟨rfl, by rw [decide_eq_true (rfl : V.str t = V.str t)]; exact h⟩
      | none =>
        obtain ⟨p1, rfl, h1⟩ := ta14
        obtain ⟨p2, rfl, h2⟩ := tb
        have dp : ∀ {p : Addr}, H14 p = some (.tup [.str "refused", .str "many"]) → Dp K H14 (.ref p) (.tuple [.str "refused", .str "many"]) := fun h => .tup (SqT.of h) (.cons (.str _) (.cons (.str _) .nil))
        have sh : SeqAt.shaped (.tuple [.str "refused", .str "many"]) = true := by decide +kernel
        have er : PyData.eqv (.tuple [.str "refused", .str "many"]) (.tuple [.str "refused", .str "many"]) = true := by decide +kernel
        exact .inr ⟨_, _, dp h1, dp h2, sh, sh, by rw [er]; exact h⟩
    refine hne _ ⟨_, rfl, ?_⟩
    clear hne ta' ta14 tb hO9 hG9 hO10 hG10 hL1 hL2
    obtain ⟨os, hos, hns⟩ := hO14
    have hmap : (os.map V.ref).length = O.length := by rw [List.length_map, hns.len]
    have hpos := okO.ok.pos
    refine ⟨_, rfl, _, rfl, oa, _, rfl, .inr (SqT.of hos), ?_⟩
    rw [hmap]
    refine ⟨s, l, _, rfl, S14, by omega, by omega, fun r H15 a0 a1 sb15 S15 => ?_⟩
    obtain ⟨x, rfl, hx⟩ := nat_of a0 a1
    have hxl : x < O.length := by omega
    have t15 := S14.tk sb15
    have hos15 := t15 _ _ hos
    refine ⟨_, rfl, _, rfl, _, rfl, oa, _, rfl, SqT.of hos15, (fun hh => absurd hh.2 (by rw [HT.sIx_nat, hmap, Nat.min_eq_left (by omega)]; omega)), fun _ t1 nt1 => ?_⟩
    rw [cut_take _ _ (by rw [hmap]; omega)]
    have s16 : Same H15 (upd H15 t1 (.tup ((os.map V.ref).take x))) := same_upd nt1
    have h16 : (upd H15 t1 (.tup ((os.map V.ref).take x))) t1 = some (.tup ((os.map V.ref).take x)) := upd_same
    have S16 := S15.put (o := .tup ((os.map V.ref).take x)) nt1
    generalize upd H15 t1 (.tup ((os.map V.ref).take x)) = H16 at s16 h16 S16
    refine ⟨_, rfl, _, rfl, oa, _, rfl, .inr (SqT.of (s16 _ _ hos15)), ?_⟩
    rw [hmap]
    refine ⟨s, l, O.length, rfl, S16, by omega, by omega, fun np nd H17 hnp hok hlt sb17 S17 => ?_⟩
    have t17 := S16.tk sb17
    refine ⟨by show 1 ≤ sizeLine; decide, fun t2 nt2 => ?_⟩
    have s18 : Same H17 (upd H17 t2 (.tup [.ref np])) := same_upd nt2
    have h18 : (upd H17 t2 (.tup [.ref np])) t2 = some (.tup [.ref np]) := upd_same
    generalize upd H17 t2 (.tup [.ref np]) = H18 at s18 h18
    refine ⟨t1, t2, _, _, rfl, rfl, s18 _ _ (t17 _ _ h16), h18, by rw [List.length_take, hmap]; exact small_sizeL (by show min x O.length + 1 ≤ 100000; omega), fun t3 H19 s19 h19 => ?_⟩
    have tk19 : TK H15 H19 := ((TK.of s16).trans t17).trans (TK.of (s18.trans s19))
    refine ⟨_, rfl, _, rfl, _, _, rfl, rfl, _, rfl, oa, _, rfl, SqT.of (tk19 _ _ hos15), ?_⟩
    have ex : ((x : Nat) : Int) + 1 = ((x + 1 : Nat) : Int) := by omega
    rw [ex]
    refine ⟨(fun hh => absurd hh.1 (by rw [HT.sIx_nat, hmap]; omega)), fun _ t4 nt4 => ?_⟩
    rw [cut_drop _ _ (by rw [hmap]; omega)]
    have s20 : Same H19 (upd H19 t4 (.tup ((os.map V.ref).drop (x + 1)))) := same_upd nt4
    have h20 : (upd H19 t4 (.tup ((os.map V.ref).drop (x + 1)))) t4 = some (.tup ((os.map V.ref).drop (x + 1))) := upd_same
    generalize upd H19 t4 (.tup ((os.map V.ref).drop (x + 1))) = H20 at s20 h20
    refine ⟨t3, t4, _, _, rfl, rfl, s20 _ _ h19, h20, ?_, fun t5 H21 s21 h21 => ?_⟩
    · rw [List.length_append, List.length_take, List.length_drop, hmap]
      exact small_sizeL (by show min x O.length + 1 + (O.length - (x + 1)) ≤ 100000; omega)
    have eset : (os.map V.ref).take x ++ [V.ref np] ++ (os.map V.ref).drop (x + 1) = (os.set x np).map V.ref := by
      rw [List.map_set, List.set_eq_take_append_cons_drop, if_pos (by rw [hmap]; omega), List.append_assoc]; rfl
    rw [eset] at h21
    have s1721 : Same H17 H21 := s18.trans (s19.trans (s20.trans s21))
    have tk21 : TK H15 H21 := tk19.trans (TK.of (s20.trans s21))
    have hthird : GrV H21 t5 (O.set x nd) := ⟨os.set x np, h21, set_nodes (hns.keep (t15.trans tk21)) (hnp.keep (TK.of s1721))⟩
    have hG21 : GrV H21 ga G := hG14.keep (t15.trans tk21)
    have len3 : (O.set x nd).length = O.length := List.length_set
    have ok3 : Gok (O.set x nd) := by
      refine ⟨⟨by rw [len3]; exact okO.ok.pos, fun i hi p hp => ?_⟩, by rw [len3]; exact okO.few, fun i hi => ?_⟩
      · rw [len3] at hi ⊢
        by_cases c : x = i
        · subst c
          rw [at_set_same hxl] at hp
          exact hlt p hp
        · rw [at_set_ne c] at hp
          exact okO.ok.parts i hi p hp
      · rw [len3] at hi
        by_cases c : x = i
        · subst c
          rw [at_set_same hxl]; exact hok
        · rw [at_set_ne c]; exact okO.nodes i hi
    refine ⟨_, rfl, t5, O.set x nd, rfl, hthird, ok3, fun p3 L3 H22 s22 hL3 l3 => ?_⟩
    refine ⟨_, rfl, ga, G, rfl, hG21.keep (TK.of s22), okG, fun pg Lg H23 s23 hLg lg' => ?_⟩
    refine ⟨grD L3, grD Lg, grD_dp (hL3.keep (TK.of s23)), grD_dp hLg, grD_shaped (least_ok ok3 l3), grD_shaped (least_ok okG lg'), ?_⟩
    have s2123 := s22.trans s23
    refine ⟨_, rfl, _, rfl, t5, ga, O.set x nd, G, rfl, hthird.keep (TK.of s2123), hG21.keep (TK.of s2123), ok3, okG, fun r H24 s24 hr24 => ?_⟩
    refine ⟨rfl, rfl, ?_⟩
    have e1 : PyData.eqv (grD L3) (grD Lg) = true ↔ L3 = Lg := grD_eqv L3 Lg
    have e2 : L3 = Lg ↔ r = 0 := (Lw.least_iff ok3.ok okG.ok l3 lg').trans hr24.symm
    have e3 : PyData.eqv (grD L3) (grD Lg) = decide (V.int r = V.int 0) := by
      rw [Bool.eq_iff_iff, e1, e2, decide_eq_true_iff]
      exact ⟨fun h => by rw [h], fun h => V.int.inj h⟩
    rw [e3, decide_eq_true (rfl : V.bl (decide (V.int r = V.int 0)) = V.bl (decide (V.int r = V.int 0)))]
    exact q H24
end
end LwW
set_option maxHeartbeats 8000000
namespace LwW
open PySem PySem.Spec PyProof.Rows L2 LwR
theorem all_mk {l : PySem.W.OpenLaw} {w : World} {K : PySem.W.Frag} {h : Heap} {mg : Str → Option Value} {fa C X r : Addr} (KX : K.In h) (G : h.Ns mainGlobals mg) (hfa : mg "law" = some (.ref fa))
    {f1 f2 f3 f4 f5 f6 f7 f8 f9 f10 f11 f12 f13 f14 f15 f16 f17 f18 f19 f20 f21 f22 f23 f24 fm1 fm2 fm3 fm4 fm5 : Addr} {tM tN t0 t1 t2 t3 t4 : Tok} {es : Array DictEntry} {nn : Nat}
    {od1 an1 : Option Addr} {sl1 : Array (Option Value)} {oc1 kV1 dc1 pm1 cd1 ct1 : Value}
    {od2 an2 : Option Addr} {sl2 : Array (Option Value)} {oc2 kV2 dc2 pm2 cd2 ct2 : Value}
    {od3 an3 : Option Addr} {sl3 : Array (Option Value)} {oc3 kV3 dc3 pm3 cd3 ct3 : Value}
    {od4 an4 : Option Addr} {sl4 : Array (Option Value)} {oc4 kV4 dc4 pm4 cd4 ct4 : Value}
    {od5 an5 : Option Addr} {sl5 : Array (Option Value)} {oc5 kV5 dc5 pm5 cd5 ct5 : Value}
    {od6 an6 : Option Addr} {sl6 : Array (Option Value)} {oc6 kV6 dc6 pm6 cd6 ct6 : Value}
    {od7 an7 : Option Addr} {sl7 : Array (Option Value)} {oc7 kV7 dc7 pm7 cd7 ct7 : Value}
    {od8 an8 : Option Addr} {sl8 : Array (Option Value)} {oc8 kV8 dc8 pm8 cd8 ct8 : Value}
    {od9 an9 : Option Addr} {sl9 : Array (Option Value)} {oc9 kV9 dc9 pm9 cd9 ct9 : Value}
    {od10 an10 : Option Addr} {sl10 : Array (Option Value)} {oc10 kV10 dc10 pm10 cd10 ct10 : Value}
    {od11 an11 : Option Addr} {sl11 : Array (Option Value)} {oc11 kV11 dc11 pm11 cd11 ct11 : Value}
    {od12 an12 : Option Addr} {sl12 : Array (Option Value)} {oc12 kV12 dc12 pm12 cd12 ct12 : Value}
    {od13 an13 : Option Addr} {sl13 : Array (Option Value)} {oc13 kV13 dc13 pm13 cd13 ct13 : Value}
    {od14 an14 : Option Addr} {sl14 : Array (Option Value)} {oc14 kV14 dc14 pm14 cd14 ct14 : Value}
    {od15 an15 : Option Addr} {sl15 : Array (Option Value)} {oc15 kV15 dc15 pm15 cd15 ct15 : Value}
    {od16 an16 : Option Addr} {sl16 : Array (Option Value)} {oc16 kV16 dc16 pm16 cd16 ct16 : Value}
    {od17 an17 : Option Addr} {sl17 : Array (Option Value)} {oc17 kV17 dc17 pm17 cd17 ct17 : Value}
    {od18 an18 : Option Addr} {sl18 : Array (Option Value)} {oc18 kV18 dc18 pm18 cd18 ct18 : Value}
    {od19 an19 : Option Addr} {sl19 : Array (Option Value)} {oc19 kV19 dc19 pm19 cd19 ct19 : Value}
    {od20 an20 : Option Addr} {sl20 : Array (Option Value)} {oc20 kV20 dc20 pm20 cd20 ct20 : Value}
    {od21 an21 : Option Addr} {sl21 : Array (Option Value)} {oc21 kV21 dc21 pm21 cd21 ct21 : Value}
    {od22 an22 : Option Addr} {sl22 : Array (Option Value)} {oc22 kV22 dc22 pm22 cd22 ct22 : Value}
    {od23 an23 : Option Addr} {sl23 : Array (Option Value)} {oc23 kV23 dc23 pm23 cd23 ct23 : Value}
    {od24 an24 : Option Addr} {sl24 : Array (Option Value)} {oc24 kV24 dc24 pm24 cd24 ct24 : Value}
    {odm1 anm1 : Option Addr} {slm1 : Array (Option Value)} {ocm1 kVm1 dcm1 pmm1 cdm1 ctm1 : Value}
    {odm2 anm2 : Option Addr} {slm2 : Array (Option Value)} {ocm2 kVm2 dcm2 pmm2 cdm2 ctm2 : Value}
    {odm3 anm3 : Option Addr} {slm3 : Array (Option Value)} {ocm3 kVm3 dcm3 pmm3 cdm3 ctm3 : Value}
    {odm4 anm4 : Option Addr} {slm4 : Array (Option Value)} {ocm4 kVm4 dcm4 pmm4 cdm4 ctm4 : Value}
    {odm5 anm5 : Option Addr} {slm5 : Array (Option Value)} {ocm5 kVm5 dcm5 pmm5 cdm5 ctm5 : Value}
    (a1 : PySem.W.nsIn K mainGlobals "parts_of" = some (some (.ref f1))) (l1 : K.lookup f1 = some ⟨oc1, od1, .func (PySem.W.fnOf "parts_of" "parts_of" (defArgs sParts) (defBody sParts) (defScope sParts) .none kV1 dc1 pm1 an1 cd1 ct1), sl1⟩) (c1 : PySem.W.codeIn K cd1 "parts_of" = true) (k1 : PySem.W.keepIn K (.ref f1) = true)
    (a2 : PySem.W.nsIn K mainGlobals "head_of" = some (some (.ref f2))) (l2 : K.lookup f2 = some ⟨oc2, od2, .func (PySem.W.fnOf "head_of" "head_of" (defArgs sHead) (defBody sHead) (defScope sHead) .none kV2 dc2 pm2 an2 cd2 ct2), sl2⟩) (c2 : PySem.W.codeIn K cd2 "head_of" = true) (k2 : PySem.W.keepIn K (.ref f2) = true)
    (a3 : PySem.W.nsIn K mainGlobals "numbered" = some (some (.ref f3))) (l3 : K.lookup f3 = some ⟨oc3, od3, .func (PySem.W.fnOf "numbered" "numbered" (defArgs sNum) (defBody sNum) (defScope sNum) .none kV3 dc3 pm3 an3 cd3 ct3), sl3⟩) (c3 : PySem.W.codeIn K cd3 "numbered" = true) (k3 : PySem.W.keepIn K (.ref f3) = true)
    (a4 : PySem.W.nsIn K mainGlobals "classes" = some (some (.ref f4))) (l4 : K.lookup f4 = some ⟨oc4, od4, .func (PySem.W.fnOf "classes" "classes" (defArgs sCls) (defBody sCls) (defScope sCls) .none kV4 dc4 pm4 an4 cd4 ct4), sl4⟩) (c4 : PySem.W.codeIn K cd4 "classes" = true) (k4 : PySem.W.keepIn K (.ref f4) = true)
    (a5 : PySem.W.nsIn K mainGlobals "least" = some (some (.ref f5))) (l5 : K.lookup f5 = some ⟨oc5, od5, .func (PySem.W.fnOf "least" "least" (defArgs sLeast) (defBody sLeast) (defScope sLeast) .none kV5 dc5 pm5 an5 cd5 ct5), sl5⟩) (c5 : PySem.W.codeIn K cd5 "least" = true) (k5 : PySem.W.keepIn K (.ref f5) = true)
    (a6 : PySem.W.nsIn K mainGlobals "checked" = some (some (.ref f6))) (l6 : K.lookup f6 = some ⟨oc6, od6, .func (PySem.W.fnOf "checked" "checked" (defArgs sChecked) (defBody sChecked) (defScope sChecked) .none kV6 dc6 pm6 an6 cd6 ct6), sl6⟩) (c6 : PySem.W.codeIn K cd6 "checked" = true) (k6 : PySem.W.keepIn K (.ref f6) = true)
    (a7 : PySem.W.nsIn K mainGlobals "is_infinite" = some (some (.ref f7))) (l7 : K.lookup f7 = some ⟨oc7, od7, .func (PySem.W.fnOf "is_infinite" "is_infinite" (defArgs sInf) (defBody sInf) (defScope sInf) .none kV7 dc7 pm7 an7 cd7 ct7), sl7⟩) (c7 : PySem.W.codeIn K cd7 "is_infinite" = true) (k7 : PySem.W.keepIn K (.ref f7) = true)
    (a8 : PySem.W.nsIn K mainGlobals "node_key" = some (some (.ref f8))) (l8 : K.lookup f8 = some ⟨oc8, od8, .func (PySem.W.fnOf "node_key" "node_key" (defArgs sKey) (defBody sKey) (defScope sKey) .none kV8 dc8 pm8 an8 cd8 ct8), sl8⟩) (c8 : PySem.W.codeIn K cd8 "node_key" = true) (k8 : PySem.W.keepIn K (.ref f8) = true)
    (a9 : PySem.W.nsIn K mainGlobals "compare_nodes" = some (some (.ref f9))) (l9 : K.lookup f9 = some ⟨oc9, od9, .func (PySem.W.fnOf "compare_nodes" "compare_nodes" (defArgs sCmpN) (defBody sCmpN) (defScope sCmpN) .none kV9 dc9 pm9 an9 cd9 ct9), sl9⟩) (c9 : PySem.W.codeIn K cd9 "compare_nodes" = true) (k9 : PySem.W.keepIn K (.ref f9) = true)
    (a10 : PySem.W.nsIn K mainGlobals "compare" = some (some (.ref f10))) (l10 : K.lookup f10 = some ⟨oc10, od10, .func (PySem.W.fnOf "compare" "compare" (defArgs sCompare) (defBody sCompare) (defScope sCompare) .none kV10 dc10 pm10 an10 cd10 ct10), sl10⟩) (c10 : PySem.W.codeIn K cd10 "compare" = true) (k10 : PySem.W.keepIn K (.ref f10) = true)
    (a11 : PySem.W.nsIn K mainGlobals "cut" = some (some (.ref f11))) (l11 : K.lookup f11 = some ⟨oc11, od11, .func (PySem.W.fnOf "cut" "cut" (defArgs sCut) (defBody sCut) (defScope sCut) .none kV11 dc11 pm11 an11 cd11 ct11), sl11⟩) (c11 : PySem.W.codeIn K cd11 "cut" = true) (k11 : PySem.W.keepIn K (.ref f11) = true)
    (a12 : PySem.W.nsIn K mainGlobals "leaf_text" = some (some (.ref f12))) (l12 : K.lookup f12 = some ⟨oc12, od12, .func (PySem.W.fnOf "leaf_text" "leaf_text" (defArgs sLeaf) (defBody sLeaf) (defScope sLeaf) .none kV12 dc12 pm12 an12 cd12 ct12), sl12⟩) (c12 : PySem.W.codeIn K cd12 "leaf_text" = true) (k12 : PySem.W.keepIn K (.ref f12) = true)
    (a13 : PySem.W.nsIn K mainGlobals "graph_text" = some (some (.ref f13))) (l13 : K.lookup f13 = some ⟨oc13, od13, .func (PySem.W.fnOf "graph_text" "graph_text" (defArgs sGT) (defBody sGT) (defScope sGT) .none kV13 dc13 pm13 an13 cd13 ct13), sl13⟩) (c13 : PySem.W.codeIn K cd13 "graph_text" = true) (k13 : PySem.W.keepIn K (.ref f13) = true)
    (a14 : PySem.W.nsIn K mainGlobals "_law_stream" = some (some (.ref f14))) (l14 : K.lookup f14 = some ⟨oc14, od14, .func (PySem.W.fnOf "_law_stream" "_law_stream" (defArgs sStr) (defBody sStr) (defScope sStr) .none kV14 dc14 pm14 an14 cd14 ct14), sl14⟩) (c14 : PySem.W.codeIn K cd14 "_law_stream" = true) (k14 : PySem.W.keepIn K (.ref f14) = true)
    (a15 : PySem.W.nsIn K mainGlobals "_law_draw" = some (some (.ref f15))) (l15 : K.lookup f15 = some ⟨oc15, od15, .func (PySem.W.fnOf "_law_draw" "_law_draw" (defArgs sDraw) (defBody sDraw) (defScope sDraw) .none kV15 dc15 pm15 an15 cd15 ct15), sl15⟩) (c15 : PySem.W.codeIn K cd15 "_law_draw" = true) (k15 : PySem.W.keepIn K (.ref f15) = true)
    (a16 : PySem.W.nsIn K mainGlobals "_law_far" = some (some (.ref f16))) (l16 : K.lookup f16 = some ⟨oc16, od16, .func (PySem.W.fnOf "_law_far" "_law_far" (defArgs sFar) (defBody sFar) (defScope sFar) .none kV16 dc16 pm16 an16 cd16 ct16), sl16⟩) (c16 : PySem.W.codeIn K cd16 "_law_far" = true) (k16 : PySem.W.keepIn K (.ref f16) = true)
    (a17 : PySem.W.nsIn K mainGlobals "_law_atom" = some (some (.ref f17))) (l17 : K.lookup f17 = some ⟨oc17, od17, .func (PySem.W.fnOf "_law_atom" "_law_atom" (defArgs sAtom) (defBody sAtom) (defScope sAtom) .none kV17 dc17 pm17 an17 cd17 ct17), sl17⟩) (c17 : PySem.W.codeIn K cd17 "_law_atom" = true) (k17 : PySem.W.keepIn K (.ref f17) = true)
    (a18 : PySem.W.nsIn K mainGlobals "_law_node" = some (some (.ref f18))) (l18 : K.lookup f18 = some ⟨oc18, od18, .func (PySem.W.fnOf "_law_node" "_law_node" (defArgs sNode) (defBody sNode) (defScope sNode) .none kV18 dc18 pm18 an18 cd18 ct18), sl18⟩) (c18 : PySem.W.codeIn K cd18 "_law_node" = true) (k18 : PySem.W.keepIn K (.ref f18) = true)
    (a19 : PySem.W.nsIn K mainGlobals "_law_graph" = some (some (.ref f19))) (l19 : K.lookup f19 = some ⟨oc19, od19, .func (PySem.W.fnOf "_law_graph" "_law_graph" (defArgs sGr) (defBody sGr) (defScope sGr) .none kV19 dc19 pm19 an19 cd19 ct19), sl19⟩) (c19 : PySem.W.codeIn K cd19 "_law_graph" = true) (k19 : PySem.W.keepIn K (.ref f19) = true)
    (a20 : PySem.W.nsIn K mainGlobals "_law_twice" = some (some (.ref f20))) (l20 : K.lookup f20 = some ⟨oc20, od20, .func (PySem.W.fnOf "_law_twice" "_law_twice" (defArgs sTw) (defBody sTw) (defScope sTw) .none kV20 dc20 pm20 an20 cd20 ct20), sl20⟩) (c20 : PySem.W.codeIn K cd20 "_law_twice" = true) (k20 : PySem.W.keepIn K (.ref f20) = true)
    (a21 : PySem.W.nsIn K mainGlobals "_law_turned" = some (some (.ref f21))) (l21 : K.lookup f21 = some ⟨oc21, od21, .func (PySem.W.fnOf "_law_turned" "_law_turned" (defArgs sTn) (defBody sTn) (defScope sTn) .none kV21 dc21 pm21 an21 cd21 ct21), sl21⟩) (c21 : PySem.W.codeIn K cd21 "_law_turned" = true) (k21 : PySem.W.keepIn K (.ref f21) = true)
    (a22 : PySem.W.nsIn K mainGlobals "_law_given" = some (some (.ref f22))) (l22 : K.lookup f22 = some ⟨oc22, od22, .func (PySem.W.fnOf "_law_given" "_law_given" (defArgs sGv) (defBody sGv) (defScope sGv) .none kV22 dc22 pm22 an22 cd22 ct22), sl22⟩) (c22 : PySem.W.codeIn K cd22 "_law_given" = true) (k22 : PySem.W.keepIn K (.ref f22) = true)
    (a23 : PySem.W.nsIn K mainGlobals "_law_told" = some (some (.ref f23))) (l23 : K.lookup f23 = some ⟨oc23, od23, .func (PySem.W.fnOf "_law_told" "_law_told" (defArgs sTo) (defBody sTo) (defScope sTo) .none kV23 dc23 pm23 an23 cd23 ct23), sl23⟩) (c23 : PySem.W.codeIn K cd23 "_law_told" = true) (k23 : PySem.W.keepIn K (.ref f23) = true)
    (a24 : PySem.W.nsIn K mainGlobals "law" = some (some (.ref f24))) (l24 : K.lookup f24 = some ⟨oc24, od24, .func (PySem.W.fnOf "law" "law" (defArgs sLaw) (defBody sLaw) (defScope sLaw) .none kV24 dc24 pm24 an24 cd24 ct24), sl24⟩) (c24 : PySem.W.codeIn K cd24 "law" = true) (k24 : PySem.W.keepIn K (.ref f24) = true)
    (aC : PySem.W.nsIn K mainGlobals "Printer" = some (some (.ref C)))
    (am1 : PySem.W.findIn K (.ref C) "__init__" = some (some (.ref fm1))) (im1 : PySem.W.isFn K (.ref fm1) = true) (lm1 : K.lookup fm1 = some ⟨ocm1, odm1, .func (PySem.W.fnOf "__init__" "Printer.__init__" (defArgs sPI) (defBody sPI) (defScope sPI) .none kVm1 dcm1 pmm1 anm1 cdm1 ctm1), slm1⟩) (cm1 : PySem.W.codeIn K cdm1 "Printer.__init__" = true) (km1 : PySem.W.keepIn K (.ref fm1) = true)
    (am2 : PySem.W.findIn K (.ref C) "put" = some (some (.ref fm2))) (im2 : PySem.W.isFn K (.ref fm2) = true) (lm2 : K.lookup fm2 = some ⟨ocm2, odm2, .func (PySem.W.fnOf "put" "Printer.put" (defArgs sPP) (defBody sPP) (defScope sPP) .none kVm2 dcm2 pmm2 anm2 cdm2 ctm2), slm2⟩) (cm2 : PySem.W.codeIn K cdm2 "Printer.put" = true) (km2 : PySem.W.keepIn K (.ref fm2) = true)
    (am3 : PySem.W.findIn K (.ref C) "write" = some (some (.ref fm3))) (im3 : PySem.W.isFn K (.ref fm3) = true) (lm3 : K.lookup fm3 = some ⟨ocm3, odm3, .func (PySem.W.fnOf "write" "Printer.write" (defArgs sPW) (defBody sPW) (defScope sPW) .none kVm3 dcm3 pmm3 anm3 cdm3 ctm3), slm3⟩) (cm3 : PySem.W.codeIn K cdm3 "Printer.write" = true) (km3 : PySem.W.keepIn K (.ref fm3) = true)
    (am4 : PySem.W.findIn K (.ref C) "refer" = some (some (.ref fm4))) (im4 : PySem.W.isFn K (.ref fm4) = true) (lm4 : K.lookup fm4 = some ⟨ocm4, odm4, .func (PySem.W.fnOf "refer" "Printer.refer" (defArgs sPR) (defBody sPR) (defScope sPR) .none kVm4 dcm4 pmm4 anm4 cdm4 ctm4), slm4⟩) (cm4 : PySem.W.codeIn K cdm4 "Printer.refer" = true) (km4 : PySem.W.keepIn K (.ref fm4) = true)
    (am5 : PySem.W.findIn K (.ref C) "begin" = some (some (.ref fm5))) (im5 : PySem.W.isFn K (.ref fm5) = true) (lm5 : K.lookup fm5 = some ⟨ocm5, odm5, .func (PySem.W.fnOf "begin" "Printer.begin" (defArgs sPB) (defBody sPB) (defScope sPB) .none kVm5 dcm5 pmm5 anm5 cdm5 ctm5), slm5⟩) (cm5 : PySem.W.codeIn K cdm5 "Printer.begin" = true) (km5 : PySem.W.keepIn K (.ref fm5) = true)
    (pg : PySem.W.plainGet K C Str.empty = true) (hd : PySem.W.hasDictIn K C = true) (po : PySem.W.plainOver K C = true) (sa : PySem.W.findIn K (.ref C) "__setattr__" = some (some (.builtin "object.__setattr__"))) (mk : PySem.W.makesIn K C = true) (kc : PySem.W.keepIn K (.ref C) = true)
    (nG : PySem.W.findIn K (.ref C) "graph" = some none) (nR : PySem.W.findIn K (.ref C) "rows" = some none) (nS : PySem.W.findIn K (.ref C) "size" = some none) (nO : PySem.W.findIn K (.ref C) "open_at" = some none)
    (aX : PySem.W.nsIn K mainGlobals "TooMany" = some (some (.ref X))) (xP : PySem.W.excIn K X [.type "ValueError", .type "Exception", .type "BaseException", .type "object"] "ValueError.__new__" = true) (kP : PySem.W.keepIn K (.ref X) = true) (bP : PySem.W.subIn K (.ref X) (.type "BaseException") = some true) (tP : PySem.W.typeIn K (.ref X) = some (.type "type")) (iP : PySem.W.isClsIn K X = true) (sP : PySem.W.subIn K (.ref X) (.ref X) = some true)
    (gM : PySem.W.nsIn K mainGlobals "MOST_NODES" = some (some (.int 400 tM))) (gN : PySem.W.nsIn K mainGlobals "MOST_TEXT" = some (some (.int 20000 tN)))
    (aR : PySem.W.nsIn K mainGlobals "RANKS" = some (some (.ref r))) (lR : K.lookup r = some ⟨.type "dict", none, .dict es nn, #[]⟩) (kR : PySem.W.KeysLit w.params es.toList)
    (r0 : PySem.W.nsIn K r "var" = some (some (.int 0 t0))) (r1 : PySem.W.nsIn K r "int" = some (some (.int 1 t1))) (r2 : PySem.W.nsIn K r "atom" = some (some (.int 2 t2))) (r3 : PySem.W.nsIn K r "tuple" = some (some (.int 3 t3))) (r4 : PySem.W.nsIn K r "name" = some (some (.int 4 t4)))
    (z0 : PySem.W.nsIn K mainGlobals "len" = some none) (z1 : PySem.W.nsIn K mainGlobals "set" = some none) (z2 : PySem.W.nsIn K mainGlobals "enumerate" = some none) (z3 : PySem.W.nsIn K mainGlobals "tuple" = some none) (z4 : PySem.W.nsIn K mainGlobals "range" = some none) (z5 : PySem.W.nsIn K mainGlobals "zip" = some none) (z6 : PySem.W.nsIn K mainGlobals "str" = some none) (z7 : PySem.W.nsIn K mainGlobals "reversed" = some none) (z8 : PySem.W.nsIn K mainGlobals "list" = some none) (z9 : PySem.W.nsIn K mainGlobals "int" = some none) (z10 : PySem.W.nsIn K mainGlobals "abs" = some none) (z11 : PySem.W.nsIn K mainGlobals "isinstance" = some none) :
    ∃ fd : FuncData, (∀ (s : Shared) (v : Value), BindsTo s fd ⟨[v], []⟩ [("_law_script", v)]) ∧ ∀ base : Heap, K.In base → base.Ns mainGlobals mg → FnOk l.prog w K mg base CX0 6 fa fd ["_law_script"] (spLaw K) := by
  have e := hfa.symm.trans (PySem.W.mg_of KX G a24)
  cases e
  have F1 := fun_mk (st := sParts) l1 c1 k1
  have b1 := F1.binds (ps := ["node"]) fun _ _ _ _ _ _ us hl => match us, hl with | [_], _ => rfl
  have F2 := fun_mk (st := sHead) l2 c2 k2
  have b2 := F2.binds (ps := ["node"]) fun _ _ _ _ _ _ us hl => match us, hl with | [_], _ => rfl
  have F3 := fun_mk (st := sNum) l3 c3 k3
  have b3 := F3.binds (ps := ["keys"]) fun _ _ _ _ _ _ us hl => match us, hl with | [_], _ => rfl
  have F4 := fun_mk (st := sCls) l4 c4 k4
  have b4 := F4.binds (ps := ["graph"]) fun _ _ _ _ _ _ us hl => match us, hl with | [_], _ => rfl
  have F5 := fun_mk (st := sLeast) l5 c5 k5
  have b5 := F5.binds (ps := ["graph"]) fun _ _ _ _ _ _ us hl => match us, hl with | [_], _ => rfl
  have F6 := fun_mk (st := sChecked) l6 c6 k6
  have b6 := F6.binds (ps := ["graph"]) fun _ _ _ _ _ _ us hl => match us, hl with | [_], _ => rfl
  have F7 := fun_mk (st := sInf) l7 c7 k7
  have b7 := F7.binds (ps := ["graph"]) fun _ _ _ _ _ _ us hl => match us, hl with | [_], _ => rfl
  have F8 := fun_mk (st := sKey) l8 c8 k8
  have b8 := F8.binds (ps := ["node"]) fun _ _ _ _ _ _ us hl => match us, hl with | [_], _ => rfl
  have F9 := fun_mk (st := sCmpN) l9 c9 k9
  have b9 := F9.binds (ps := ["first", "second"]) fun _ _ _ _ _ _ us hl => match us, hl with | [_, _], _ => rfl
  have F10 := fun_mk (st := sCompare) l10 c10 k10
  have b10 := F10.binds (ps := ["first", "second"]) fun _ _ _ _ _ _ us hl => match us, hl with | [_, _], _ => rfl
  have F11 := fun_mk (st := sCut) l11 c11 k11
  have b11 := F11.binds (ps := ["graph", "depth"]) fun _ _ _ _ _ _ us hl => match us, hl with | [_, _], _ => rfl
  have F12 := fun_mk (st := sLeaf) l12 c12 k12
  have b12 := F12.binds (ps := ["node"]) fun _ _ _ _ _ _ us hl => match us, hl with | [_], _ => rfl
  have F13 := fun_mk (st := sGT) l13 c13 k13
  have b13 := F13.binds (ps := ["graph"]) fun _ _ _ _ _ _ us hl => match us, hl with | [_], _ => rfl
  have F14 := fun_mk (st := sStr) l14 c14 k14
  have b14 := F14.binds (ps := ["_law_script"]) fun _ _ _ _ _ _ us hl => match us, hl with | [_], _ => rfl
  have F15 := fun_mk (st := sDraw) l15 c15 k15
  have b15 := F15.binds (ps := ["_law_stream_here", "_law_many"]) fun _ _ _ _ _ _ us hl => match us, hl with | [_, _], _ => rfl
  have F16 := fun_mk (st := sFar) l16 c16 k16
  have b16 := F16.binds (ps := ["_law_stream_here"]) fun _ _ _ _ _ _ us hl => match us, hl with | [_], _ => rfl
  have F17 := fun_mk (st := sAtom) l17 c17 k17
  have b17 := F17.binds (ps := ["_law_stream_here"]) fun _ _ _ _ _ _ us hl => match us, hl with | [_], _ => rfl
  have F18 := fun_mk (st := sNode) l18 c18 k18
  have b18 := F18.binds (ps := ["_law_stream_here", "_law_many"]) fun _ _ _ _ _ _ us hl => match us, hl with | [_, _], _ => rfl
  have F19 := fun_mk (st := sGr) l19 c19 k19
  have b19 := F19.binds (ps := ["_law_stream_here", "_law_most"]) fun _ _ _ _ _ _ us hl => match us, hl with | [_, _], _ => rfl
  have F20 := fun_mk (st := sTw) l20 c20 k20
  have b20 := F20.binds (ps := ["_law_stream_here", "_law_graph_here"]) fun _ _ _ _ _ _ us hl => match us, hl with | [_, _], _ => rfl
  have F21 := fun_mk (st := sTn) l21 c21 k21
  have b21 := F21.binds (ps := ["_law_stream_here", "_law_graph_here"]) fun _ _ _ _ _ _ us hl => match us, hl with | [_, _], _ => rfl
  have F22 := fun_mk (st := sGv) l22 c22 k22
  have b22 := F22.binds (ps := ["_law_told_here"]) fun _ _ _ _ _ _ us hl => match us, hl with | [_], _ => rfl
  have F23 := fun_mk (st := sTo) l23 c23 k23
  have b23 := F23.binds (ps := ["_law_graph_here"]) fun _ _ _ _ _ _ us hl => match us, hl with | [_], _ => rfl
  have F24 := fun_mk (st := sLaw) l24 c24 k24
  have Fm1 := fun_mk (st := sPI) lm1 cm1 km1
  have bm1 := Fm1.binds (ps := ["self", "graph"]) fun _ _ _ _ _ _ us hl => match us, hl with | [_, _], _ => rfl
  have Fm2 := fun_mk (st := sPP) lm2 cm2 km2
  have bm2 := Fm2.binds (ps := ["self", "text"]) fun _ _ _ _ _ _ us hl => match us, hl with | [_, _], _ => rfl
  have Fm3 := fun_mk (st := sPW) lm3 cm3 km3
  have bm3 := Fm3.binds (ps := ["self"]) fun _ _ _ _ _ _ us hl => match us, hl with | [_], _ => rfl
  have Fm4 := fun_mk (st := sPR) lm4 cm4 km4
  have bm4 := Fm4.binds (ps := ["self", "at"]) fun _ _ _ _ _ _ us hl => match us, hl with | [_, _], _ => rfl
  have Fm5 := fun_mk (st := sPB) lm5 cm5 km5
  have bm5 := Fm5.binds (ps := ["self", "at", "waiting"]) fun _ _ _ _ _ _ us hl => match us, hl with | [_, _, _], _ => rfl
  have g1 := PySem.W.mg_of KX G a1
  have g2 := PySem.W.mg_of KX G a2
  have g3 := PySem.W.mg_of KX G a3
  have g4 := PySem.W.mg_of KX G a4
  have g5 := PySem.W.mg_of KX G a5
  have g6 := PySem.W.mg_of KX G a6
  have g7 := PySem.W.mg_of KX G a7
  have g8 := PySem.W.mg_of KX G a8
  have g9 := PySem.W.mg_of KX G a9
  have g10 := PySem.W.mg_of KX G a10
  have g11 := PySem.W.mg_of KX G a11
  have g12 := PySem.W.mg_of KX G a12
  have g13 := PySem.W.mg_of KX G a13
  have g14 := PySem.W.mg_of KX G a14
  have g15 := PySem.W.mg_of KX G a15
  have g16 := PySem.W.mg_of KX G a16
  have g17 := PySem.W.mg_of KX G a17
  have g18 := PySem.W.mg_of KX G a18
  have g19 := PySem.W.mg_of KX G a19
  have g20 := PySem.W.mg_of KX G a20
  have g21 := PySem.W.mg_of KX G a21
  have g22 := PySem.W.mg_of KX G a22
  have g23 := PySem.W.mg_of KX G a23
  have g24 := PySem.W.mg_of KX G a24
  have y0 := PySem.W.mg_none_of KX G z0
  have y1 := PySem.W.mg_none_of KX G z1
  have y2 := PySem.W.mg_none_of KX G z2
  have y3 := PySem.W.mg_none_of KX G z3
  have y4 := PySem.W.mg_none_of KX G z4
  have y5 := PySem.W.mg_none_of KX G z5
  have y6 := PySem.W.mg_none_of KX G z6
  have y7 := PySem.W.mg_none_of KX G z7
  have y8 := PySem.W.mg_none_of KX G z8
  have y9 := PySem.W.mg_none_of KX G z9
  have y10 := PySem.W.mg_none_of KX G z10
  have y11 := PySem.W.mg_none_of KX G z11
  have B : Blt mg := ⟨y0, y1, y2, y3, y4, y5, y6, y7, y8, y9, y10, y11⟩
  have R : Ranks K w mg r := ⟨PySem.W.mg_of KX G aR, ⟨es, nn, _, lR, kR, r0, ⟨_, rfl⟩⟩, ⟨es, nn, _, lR, kR, r1, ⟨_, rfl⟩⟩, ⟨es, nn, _, lR, kR, r2, ⟨_, rfl⟩⟩, ⟨es, nn, _, lR, kR, r3, ⟨_, rfl⟩⟩, ⟨es, nn, _, lR, kR, r4, ⟨_, rfl⟩⟩⟩
  have T : PrT K mg C := ⟨⟨pg, hd, po, sa⟩, nG, nR, nS, nO, PySem.W.mg_of KX G aC, ⟨_, PySem.W.mg_of KX G gN⟩, B.len, B.str, B.range, B.reversed⟩
  have M : Tm K mg X := ⟨xP, PySem.W.mg_of KX G aX, kP, bP, tP, iP, sP⟩
  have hM := PySem.W.mg_of KX G gM
  refine ⟨PySem.W.fnOf "law" "law" (defArgs sLaw) (defBody sLaw) (defScope sLaw) .none kV24 dc24 pm24 an24 cd24 ct24, fun s v => .of_eq rfl, fun base _ _ => ?_⟩
  have G1 : FnOk l.prog w K mg base CX0 1 f1 _ ["node"] (spParts K) := ok_parts (k := 0) F1
  have G4 : FnOk l.prog w K mg base CX0 2 f4 _ ["graph"] (spCls K) := ok_cls (k := 0) F4 B hM F3 b3 g3 F2 b2 g2 F1 b1 g1
  have G5 : FnOk l.prog w K mg base CX0 3 f5 _ ["graph"] (spLeast K) := ok_least (k := 0) F5 B G4 k4 b4 g4 G1 k1 b1 g1
  have G6 : FnOk l.prog w K mg base CX0 4 f6 _ ["graph"] (spLeast K) := ok_checked (k := 0) F6 B hM G5 k5 b5 g5
  have G7 : FnOk l.prog w K mg base CX0 4 f7 _ ["graph"] (spInf K) := ok_inf (k := 0) F7 B G5 k5 b5 g5 G1 k1 b1 g1
  have G8 : FnOk l.prog w K mg base CX0 1 f8 _ ["node"] (spKey K) := ok_key (k := 0) F8 B R
  have G9 : FnOk l.prog w K mg base CX0 2 f9 _ ["first", "second"] (spCmpN K) := ok_cmpN (k := 0) F9 G8 k8 b8 g8
  have G10 : FnOk l.prog w K mg base CX0 3 f10 _ ["first", "second"] (spCompare K) := ok_compare (k := 0) F10 B G9 k9 b9 g9 G1 k1 b1 g1
  have G11 : FnOk l.prog w K mg base CX0 5 f11 _ ["graph", "depth"] (spCut K) := ok_cut (k := 0) F11 B G6 k6 b6 g6
  have G12 : FnOk l.prog w K mg base CX0 1 f12 _ ["node"] spLeaf := ok_leaf (k := 0) F12 B.str
  have Gm1 : FnOk l.prog w K mg base CX0 1 fm1 _ ["self", "graph"] (spPI C) := ok_pi (k := 0) Fm1 T
  have Gm2 : FnOk l.prog w K mg base (L2.CX l.prog w) 1 fm2 _ ["self", "text"] (spPP C X) := ok_pp (k := 0) Fm2 T M
  have Gm4 : FnOk l.prog w K mg base (L2.CX l.prog w) 2 fm4 _ ["self", "at"] (spPR C X) := ok_pr (k := 0) Fm4 T ⟨am2, im2, km2⟩ Gm2 bm2
  have Gm5 : FnOk l.prog w K mg base (L2.CX l.prog w) 2 fm5 _ ["self", "at", "waiting"] (spPB C X) := ok_pb (k := 0) Fm5 T ⟨am2, im2, km2⟩ Gm2 bm2
  have Gm3 : FnOk l.prog w K mg base (L2.CX l.prog w) 3 fm3 _ ["self"] (spPW C X) := ok_pw (k := 0) Fm3 T ⟨am2, im2, km2⟩ Gm2 bm2 ⟨am4, im4, km4⟩ Gm4 bm4 ⟨am5, im5, km5⟩ Gm5 bm5 G12 k12 b12 g12
  have G13 : FnOk l.prog w K mg base (L2.CX l.prog w) 4 f13 _ ["graph"] (spGT K X) := ok_gt (k := 0) F13 T M ⟨mk, am1, im1, kc⟩ Gm1 bm1 ⟨am3, im3, km3⟩ Gm3 bm3 G5 k5 b5 g5
  have G14 : FnOk l.prog w K mg base CX0 1 f14 _ ["_law_script"] (spStr K) := ok_str (k := 0) F14 B
  have G15 : FnOk l.prog w K mg base CX0 1 f15 _ ["_law_stream_here", "_law_many"] spDraw := ok_draw (k := 0) F15 B
  have G16 : FnOk l.prog w K mg base CX0 2 f16 _ ["_law_stream_here"] spFar := ok_far (k := 0) F16 G15 k15 b15 g15
  have G17 : FnOk l.prog w K mg base CX0 2 f17 _ ["_law_stream_here"] spAtom := ok_atom (k := 0) F17 B G15 k15 b15 g15
  have G18 : FnOk l.prog w K mg base CX0 3 f18 _ ["_law_stream_here", "_law_many"] spNode := ok_node (k := 0) F18 B G15 k15 b15 g15 G16 k16 b16 g16 G17 k17 b17 g17
  have G19 : FnOk l.prog w K mg base CX0 4 f19 _ ["_law_stream_here", "_law_most"] spGr := ok_gr (k := 0) F19 B G15 k15 b15 g15 G18 k18 b18 g18
  have G20 : FnOk l.prog w K mg base CX0 2 f20 _ ["_law_stream_here", "_law_graph_here"] spTw := ok_tw (k := 0) F20 B G15 k15 b15 g15
  have G21 : FnOk l.prog w K mg base CX0 2 f21 _ ["_law_stream_here", "_law_graph_here"] spTn := ok_tn (k := 0) F21 B G15 k15 b15 g15
  have G22 : FnOk l.prog w K mg base CX0 1 f22 _ ["_law_told_here"] spGv := ok_gv (k := 0) F22 B
  have G23 : FnOk l.prog w K mg base CX0 5 f23 _ ["_law_graph_here"] (spTo K) := ok_to (k := 0) F23 M G22 k22 b22 g22 G13 k13 b13 g13
  exact ok_law F24 B ⟨G14.mono (by decide), k14, b14, g14⟩ ⟨G19.mono (by decide), k19, b19, g19⟩ ⟨G21.mono (by decide), k21, b21, g21⟩ ⟨G20.mono (by decide), k20, b20, g20⟩ ⟨G5.mono (by decide), k5, b5, g5⟩ ⟨G10.mono (by decide), k10, b10, g10⟩ ⟨G7.mono (by decide), k7, b7, g7⟩ ⟨G15.mono (by decide), k15, b15, g15⟩ ⟨G11.mono (by decide), k11, b11, g11⟩ ⟨G23.mono (by decide), k23, b23, g23⟩ ⟨G18.mono (by decide), k18, b18, g18⟩
theorem walk {l : PySem.W.OpenLaw} {q : Program} {loose : List Str} {XP : (Str → Option Value) → Heap → Prop} {YP : World → Heap → Prop} {d : DefRec} {K : Params → PySem.W.Frag} (hn : l.most = some 63) (hdf : d.params.defaults = [])
    (hY : ∀ (w : World) (h : Heap), YP w h → (K w.params).In h)
    (F : ∀ (w : World) (mg : Str → Option Value) (fa : Addr) (h : Heap), (K w.params).In h → h.Ns mainGlobals mg → mg d.name = some (.ref fa) →
      ∃ fd : FuncData, (∀ (s : Shared) (u : Value), BindsTo s fd ⟨[u], []⟩ [("_law_script", u)]) ∧ ∀ base : Heap, (K w.params).In base → base.Ns mainGlobals mg → FnOk l.prog w (K w.params) mg base CX0 6 fa fd ["_law_script"] (spLaw (K w.params))) :
    PySem.W.WalkO q loose XP YP l.row.toRowW d [] (fun f vs => PySem.call f vs) :=
  L2.walk_of (n := 63) (k := 6) (x := "_law_script") (CX := fun _ => CX0) (sp := fun w => spLaw (K w.params)) hn (by decide) hdf ⟨rfl, by decide, by decide⟩ hY F (fun _ _ a ns hl _ hS => ⟨a, ns, rfl, hS, hl, fun _ => rfl⟩) fun _ _ _ _ _ z => z
end LwW
open PySem PySem.W PyProof.Rows
set_option maxHeartbeats 0
theorem PySem.Challenge.cw_leatwork_k03_whole_equal_trees_holds : PySem.Challenge.rw_leatwork_k03_whole_equal_trees.Holds := by
  w_on; o_law; k_head; (case hw => w_witness2)
  k_fill
  refine LwW.walk (l := PySem.Challenge.rw_leatwork_k03_whole_equal_trees) rfl rfl (fun w h Y => PySem.W.kIn_of Y) ?F
  case F =>
    intro w mg fa h KX G hmg
    refine' LwW.all_mk KX G hmg ?a1 ?l1 ?c1 ?k1 ?a2 ?l2 ?c2 ?k2 ?a3 ?l3 ?c3 ?k3 ?a4 ?l4 ?c4 ?k4 ?a5 ?l5 ?c5 ?k5 ?a6 ?l6 ?c6 ?k6 ?a7 ?l7 ?c7 ?k7 ?a8 ?l8 ?c8 ?k8 ?a9 ?l9 ?c9 ?k9 ?a10 ?l10 ?c10 ?k10 ?a11 ?l11 ?c11 ?k11 ?a12 ?l12 ?c12 ?k12 ?a13 ?l13 ?c13 ?k13 ?a14 ?l14 ?c14 ?k14 ?a15 ?l15 ?c15 ?k15 ?a16 ?l16 ?c16 ?k16 ?a17 ?l17 ?c17 ?k17 ?a18 ?l18 ?c18 ?k18 ?a19 ?l19 ?c19 ?k19 ?a20 ?l20 ?c20 ?k20 ?a21 ?l21 ?c21 ?k21 ?a22 ?l22 ?c22 ?k22 ?a23 ?l23 ?c23 ?k23 ?a24 ?l24 ?c24 ?k24 ?aC ?am1 ?im1 ?lm1 ?cm1 ?km1 ?am2 ?im2 ?lm2 ?cm2 ?km2 ?am3 ?im3 ?lm3 ?cm3 ?km3 ?am4 ?im4 ?lm4 ?cm4 ?km4 ?am5 ?im5 ?lm5 ?cm5 ?km5 ?pg ?hd ?po ?sa ?mk ?kc ?nG ?nR ?nS ?nO ?aX ?xP ?kP ?bP ?tP ?iP ?sP ?gM ?gN ?aR ?lR ?kR ?r0 ?r1 ?r2 ?r3 ?r4 ?z0 ?z1 ?z2 ?z3 ?z4 ?z5 ?z6 ?z7 ?z8 ?z9 ?z10 ?z11
    (case a1 => k_is)
    (case l1 => k_is)
    (case c1 => k_is)
    (case k1 => k_is)
    (case a2 => k_is)
    (case l2 => k_is)
    (case c2 => k_is)
    (case k2 => k_is)
    (case a3 => k_is)
    (case l3 => k_is)
    (case c3 => k_is)
    (case k3 => k_is)
    (case a4 => k_is)
    (case l4 => k_is)
    (case c4 => k_is)
    (case k4 => k_is)
    (case a5 => k_is)
    (case l5 => k_is)
    (case c5 => k_is)
    (case k5 => k_is)
    (case a6 => k_is)
    (case l6 => k_is)
    (case c6 => k_is)
    (case k6 => k_is)
    (case a7 => k_is)
    (case l7 => k_is)
    (case c7 => k_is)
    (case k7 => k_is)
    (case a8 => k_is)
    (case l8 => k_is)
    (case c8 => k_is)
    (case k8 => k_is)
    (case a9 => k_is)
    (case l9 => k_is)
    (case c9 => k_is)
    (case k9 => k_is)
    (case a10 => k_is)
    (case l10 => k_is)
    (case c10 => k_is)
    (case k10 => k_is)
    (case a11 => k_is)
    (case l11 => k_is)
    (case c11 => k_is)
    (case k11 => k_is)
    (case a12 => k_is)
    (case l12 => k_is)
    (case c12 => k_is)
    (case k12 => k_is)
    (case a13 => k_is)
    (case l13 => k_is)
    (case c13 => k_is)
    (case k13 => k_is)
    (case a14 => k_is)
    (case l14 => k_is)
    (case c14 => k_is)
    (case k14 => k_is)
    (case a15 => k_is)
    (case l15 => k_is)
    (case c15 => k_is)
    (case k15 => k_is)
    (case a16 => k_is)
    (case l16 => k_is)
    (case c16 => k_is)
    (case k16 => k_is)
    (case a17 => k_is)
    (case l17 => k_is)
    (case c17 => k_is)
    (case k17 => k_is)
    (case a18 => k_is)
    (case l18 => k_is)
    (case c18 => k_is)
    (case k18 => k_is)
    (case a19 => k_is)
    (case l19 => k_is)
    (case c19 => k_is)
    (case k19 => k_is)
    (case a20 => k_is)
    (case l20 => k_is)
    (case c20 => k_is)
    (case k20 => k_is)
    (case a21 => k_is)
    (case l21 => k_is)
    (case c21 => k_is)
    (case k21 => k_is)
    (case a22 => k_is)
    (case l22 => k_is)
    (case c22 => k_is)
    (case k22 => k_is)
    (case a23 => k_is)
    (case l23 => k_is)
    (case c23 => k_is)
    (case k23 => k_is)
    (case a24 => k_is)
    (case l24 => k_is)
    (case c24 => k_is)
    (case k24 => k_is)
    (case aC => k_is)
    (case am1 => k_is)
    (case im1 => k_is)
    (case lm1 => k_is)
    (case cm1 => k_is)
    (case km1 => k_is)
    (case am2 => k_is)
    (case im2 => k_is)
    (case lm2 => k_is)
    (case cm2 => k_is)
    (case km2 => k_is)
    (case am3 => k_is)
    (case im3 => k_is)
    (case lm3 => k_is)
    (case cm3 => k_is)
    (case km3 => k_is)
    (case am4 => k_is)
    (case im4 => k_is)
    (case lm4 => k_is)
    (case cm4 => k_is)
    (case km4 => k_is)
    (case am5 => k_is)
    (case im5 => k_is)
    (case lm5 => k_is)
    (case cm5 => k_is)
    (case km5 => k_is)
    (case pg => k_is)
    (case hd => k_is)
    (case po => k_is)
    (case sa => k_is)
    (case mk => k_is)
    (case kc => k_is)
    (case nG => k_is)
    (case nR => k_is)
    (case nS => k_is)
    (case nO => k_is)
    (case aX => k_is)
    (case xP => k_exc)
    (case kP => k_is)
    (case bP => k_is)
    (case tP => k_is)
    (case iP => k_is)
    (case sP => first | rfl | k_is)
    (case gM => k_is)
    (case gN => k_is)
    (case aR => k_is)
    (case lR => k_is)
    (case kR => k_keys)
    (case r0 => k_is)
    (case r1 => k_is)
    (case r2 => k_is)
    (case r3 => k_is)
    (case r4 => k_is)
    (case z0 => k_is)
    (case z1 => k_is)
    (case z2 => k_is)
    (case z3 => k_is)
    (case z4 => k_is)
    (case z5 => k_is)
    (case z6 => k_is)
    (case z7 => k_is)
    (case z8 => k_is)
    (case z9 => k_is)
    (case z10 => k_is)
    (case z11 => k_is)
