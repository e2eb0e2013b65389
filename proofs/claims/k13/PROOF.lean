import PyProof.Rows.All
import Wide.All
import OpenK.AllK
import Wide.FinOn
import HandS.ForMost
import HandS.ForExc
import HandS.Conv
import HandS.CallSlots
import HandS.TupAny
import HandS.IsInst
import HandS.Strs
import PySem.Challenge.RW_bikedocks_k13_written_and_read
set_option Elab.async false
set_option linter.all false
set_option maxRecDepth 100000
set_option maxHeartbeats 1000000
/-! Fw1: data values, what stands for them in a heap, environments, the judgements. -/
namespace Fw
open PySem L2

/-- data -/
inductive D where
  | non | bl (b : Bool) | int (i : Int) | str (x : Str)
  | tup (xs : List D) | lst (z : Bool) (xs : List D)
  | ins (C : Addr) (ns : List Str) (xs : List D)
  | adr (a : Addr)
  /-- a list that is only read -/
  | sql (xs : List D)
  /-- the draws' box; an instance that is being made; one that keeps a dict -/
  | box | slf (C : Addr) | mem (C : Addr)
  /-- a dict of lists that grow; a dict that stands -/
  | dls | dct (fs : List Str) (xs : List D)

/-- what may be changed while data stand: nothing; the draws' box; an instance that is being made or that keeps a dict -/
inductive Bk where
  | no | draw (x y : Addr) | self (a C : Addr) | memo (a C d : Addr) | dls (a : Addr) (ls : List Addr)
structure Kx where
  K : PySem.W.Frag
  bx : Bk
  /-- the marked lists: those that somebody may change behind -/
  z : Addr → Bool

def kvD (fs : List Str) (vs : List V) : List (Key × V) := (fs.zip vs).map fun p => (.inr p.1, p.2)
mutual
inductive Is (k : Kx) (H : Hp) : D → V → Prop
  | non : Is k H .non .non
  | bl (b : Bool) : Is k H (.bl b) (.bl b)
  | int (i : Int) : Is k H (.int i) (.int i)
  | str (x : Str) : Is k H (.str x) (.str x)
  | tup {a : Addr} {vs : List V} {ds : List D} : SqT k.K H a vs → IsL k H ds vs → Is k H (.tup ds) (.ref a)
  | lst {a : Addr} {vs : List V} {ds : List D} {z : Bool} : H a = some (.lst vs) → k.z a = z → IsL k H ds vs → Is k H (.lst z ds) (.ref a)
  | ins {a dx C : Addr} {ns : List Str} {vs : List V} {ds : List D} : H a = some (.ins C dx (ns.zip vs)) → ns.length = vs.length → IsL k H ds vs → Is k H (.ins C ns ds) (.ref a)
  | adr (a : Addr) : Is k H (.adr a) (.ref a)
  | sql {a : Addr} {vs : List V} {ds : List D} : SqL k.K H a vs → IsL k H ds vs → Is k H (.sql ds) (.ref a)
  | box {x y : Addr} : k.bx = .draw x y → Is k H .box (.ref x)
  | slf {a C : Addr} : k.bx = .self a C → Is k H (.slf C) (.ref a)
  | mem {a C d : Addr} : k.bx = .memo a C d → Is k H (.mem C) (.ref a)
  | dls {a : Addr} {ls : List Addr} : k.bx = .dls a ls → Is k H .dls (.ref a)
  | dct {a : Addr} {fs : List Str} {vs : List V} {ds : List D} : H a = some (.dK (kvD fs vs)) → fs.length = vs.length → IsL k H ds vs → Is k H (.dct fs ds) (.ref a)
inductive IsL (k : Kx) (H : Hp) : List D → List V → Prop
  | nil : IsL k H [] []
  | cons {d : D} {v : V} {ds : List D} {vs : List V} : Is k H d v → IsL k H ds vs → IsL k H (d :: ds) (v :: vs)
end

theorem same_rd {H H' : Hp} {a : Addr} {u : HO} (e : Same H H') (h : Rd H a u) : Rd H' a u := by
  rcases h with h | ⟨o, h⟩
  · exact Or.inl (e a _ h)
  · exact Or.inr ⟨o, e a _ h⟩
theorem same_l {K : PySem.W.Frag} {H H' : Hp} {a : Addr} {xs : List V} (e : Same H H') (h : SqL K H a xs) : SqL K H' a xs := e.seq h
theorem same_t {K : PySem.W.Frag} {H H' : Hp} {a : Addr} {xs : List V} (e : Same H H') (h : SqT K H a xs) : SqT K H' a xs := by
  rcases h with h | h
  · exact Or.inl (same_rd e h)
  · exact Or.inr h

section
variable {k : Kx} {H H' : Hp}
mutual
theorem Is.mono (e : Same H H') : ∀ {d : D} {v : V}, Is k H d v → Is k H' d v
  | _, _, .non => .non
  | _, _, .bl b => .bl b
  | _, _, .int b => .int b
  | _, _, .str b => .str b
  | _, _, .tup h l => .tup (same_t e h) (IsL.mono e l)
  | _, _, .lst h q l => .lst (e _ _ h) q (IsL.mono e l)
  | _, _, .ins h n l => .ins (e _ _ h) n (IsL.mono e l)
  | _, _, .adr a => .adr a
  | _, _, .sql h l => .sql (same_l e h) (IsL.mono e l)
  | _, _, .box h => .box h
  | _, _, .slf h => .slf h
  | _, _, .mem h => .mem h
  | _, _, .dls h => .dls h
  | _, _, .dct h q l => .dct (e _ _ h) q (IsL.mono e l)
theorem IsL.mono (e : Same H H') : ∀ {ds : List D} {vs : List V}, IsL k H ds vs → IsL k H' ds vs
  | _, _, .nil => .nil
  | _, _, .cons h l => .cons (Is.mono e h) (IsL.mono e l)
end
mutual
/-- data in which no box stands -/
def clean : D → Bool
  | .tup xs => cleanL xs
  | .lst _ xs => cleanL xs
  | .ins _ _ xs => cleanL xs
  | .sql xs => cleanL xs
  | .box => false
  | .slf _ => false
  | .mem _ => false
  | .dls => false
  | .dct _ xs => cleanL xs
  | _ => true
def cleanL : List D → Bool
  | [] => true
  | d :: ds => clean d && cleanL ds
end
mutual
theorem Is.rebox {K : PySem.W.Frag} {bx bx' : Bk} {z : Addr → Bool} : ∀ {d : D} {v : V}, clean d = true → Is ⟨K, bx, z⟩ H d v → Is ⟨K, bx', z⟩ H d v
  | _, _, _, .non => .non
  | _, _, _, .bl b => .bl b
  | _, _, _, .int b => .int b
  | _, _, _, .str b => .str b
  | _, _, c, .tup h l => .tup h (IsL.rebox c l)
  | _, _, c, .lst h q l => .lst h q (IsL.rebox c l)
  | _, _, c, .ins h n l => .ins h n (IsL.rebox c l)
  | _, _, _, .adr a => .adr a
  | _, _, c, .sql h l => .sql h (IsL.rebox c l)
  | _, _, c, .box h => nomatch c
  | _, _, c, .slf h => nomatch c
  | _, _, c, .mem h => nomatch c
  | _, _, c, .dls h => nomatch c
  | _, _, c, .dct h q l => .dct h q (IsL.rebox c l)
theorem IsL.rebox {K : PySem.W.Frag} {bx bx' : Bk} {z : Addr → Bool} : ∀ {ds : List D} {vs : List V}, cleanL ds = true → IsL ⟨K, bx, z⟩ H ds vs → IsL ⟨K, bx', z⟩ H ds vs
  | _, _, _, .nil => .nil
  | _, _, c, .cons h l => by
    have c := Bool.and_eq_true_iff.mp c
    exact .cons (Is.rebox c.1 h) (IsL.rebox c.2 l)
end
theorem IsL.length {ds : List D} {vs : List V} (h : IsL k H ds vs) : ds.length = vs.length := by
  induction ds generalizing vs with
  | nil => cases h; rfl
  | cons d ds ih => cases h with | cons h l => simp [ih l]
theorem IsL.get {ds : List D} {vs : List V} {i : Nat} {d : D} (h : IsL k H ds vs) (e : ds[i]? = some d) : ∃ v, vs[i]? = some v ∧ Is k H d v := by
  induction ds generalizing vs i with
  | nil => simp at e
  | cons a ds ih =>
    cases h with
    | cons h l =>
      cases i with
      | zero => simp at e; subst e; exact ⟨_, rfl, h⟩
      | succ i => simpa using ih l (by simpa using e)
theorem IsL.getV {ds : List D} {vs : List V} {i : Nat} {v : V} (h : IsL k H ds vs) (e : vs[i]? = some v) : ∃ d, ds[i]? = some d ∧ Is k H d v := by
  induction ds generalizing vs i with
  | nil => cases h; simp at e
  | cons a ds ih =>
    cases h with
    | cons h l =>
      cases i with
      | zero => simp at e; subst e; exact ⟨_, rfl, h⟩
      | succ i => simpa using ih l (by simpa using e)
theorem IsL.app {ds es : List D} {vs us : List V} (h : IsL k H ds vs) (l : IsL k H es us) : IsL k H (ds ++ es) (vs ++ us) := by
  induction ds generalizing vs with
  | nil => cases h; exact l
  | cons a ds ih => cases h with | cons h q => exact .cons h (ih q)
theorem IsL.set {ds : List D} {vs : List V} {i : Nat} {d : D} {v : V} (h : IsL k H ds vs) (r : Is k H d v) : IsL k H (ds.set i d) (vs.set i v) := by
  induction ds generalizing vs i with
  | nil => cases h; exact .nil
  | cons a ds ih =>
    cases h with
    | cons h l =>
      cases i with
      | zero => exact .cons r l
      | succ i => exact .cons h (ih l)
theorem IsL.take {ds : List D} {vs : List V} (n : Nat) (h : IsL k H ds vs) : IsL k H (ds.take n) (vs.take n) := by
  induction ds generalizing vs n with
  | nil => cases h; simp; exact .nil
  | cons a ds ih =>
    cases h with
    | cons h l =>
      cases n with
      | zero => exact .nil
      | succ n => exact .cons h (ih n l)
theorem IsL.drop {ds : List D} {vs : List V} (n : Nat) (h : IsL k H ds vs) : IsL k H (ds.drop n) (vs.drop n) := by
  induction ds generalizing vs n with
  | nil => cases h; simp; exact .nil
  | cons a ds ih =>
    cases h with
    | cons h l =>
      cases n with
      | zero => exact .cons h l
      | succ n => exact ih n l
theorem IsL.rep {d : D} {v : V} (n : Nat) (h : Is k H d v) : IsL k H (List.replicate n d) (List.replicate n v) := by
  induction n with
  | zero => exact .nil
  | succ n ih => exact .cons h ih
theorem IsL.eraseIdx {ds : List D} {vs : List V} (n : Nat) (h : IsL k H ds vs) : IsL k H (ds.eraseIdx n) (vs.eraseIdx n) := by
  induction ds generalizing vs n with
  | nil => cases h; exact .nil
  | cons a ds ih =>
    cases h with
    | cons h l =>
      cases n with
      | zero => exact l
      | succ n => exact .cons h (ih n l)
theorem IsL.ints : ∀ (ns : List Int), IsL k H (ns.map D.int) (ns.map V.int)
  | [] => .nil
  | n :: ns => .cons (.int n) (IsL.ints ns)
theorem IsL.ints_inv : ∀ {ns : List Int} {vs : List V}, IsL k H (ns.map D.int) vs → vs = ns.map V.int
  | [], _, h => by cases h; rfl
  | n :: ns, _, h => by cases h with | cons h l => cases h; rw [IsL.ints_inv l]; rfl
end

/-! ### the draw box and the frozen part -/
structure Bx where
  ns : List Int
  st : Int
  fs : List Str
  ds : List D
  mm : List (List D × D)
  ls : List (List D)

/-- growing lists -/
def DL (k : Kx) (H0 H : Hp) : List Addr → List (List D) → Prop
  | [], [] => True
  | l :: ls, ds :: dss => (k.z l = false ∧ H0 l = none ∧ ∃ vs, H l = some (.lst vs) ∧ IsL k H0 ds vs) ∧ DL k H0 H ls dss
  | _, _ => False
theorem DL.move {k : Kx} {H0 H H0' H' : Hp} (e : Same H0 H0') : ∀ {ls : List Addr} {dss : List (List D)}, DL k H0 H ls dss → (∀ l ∈ ls, H0' l = none) → (∀ l o, l ∈ ls → H l = some o → H' l = some o) → DL k H0' H' ls dss
  | [], [], _, _, _ => trivial
  | l :: ls, ds :: dss, ⟨⟨hz, h0, vs, h1, h2⟩, r⟩, n, q => ⟨⟨hz, n l List.mem_cons_self, vs, q l _ List.mem_cons_self h1, h2.mono e⟩, DL.move e r (fun l hl => n l (List.mem_cons_of_mem _ hl)) fun l o hl => q l o (List.mem_cons_of_mem _ hl)⟩
  | [], _ :: _, h, _, _ => h.elim
  | _ :: _, [], h, _, _ => h.elim
theorem DL.there {k : Kx} {H0 H : Hp} : ∀ {ls : List Addr} {dss : List (List D)} {l : Addr}, DL k H0 H ls dss → l ∈ ls → H0 l = none ∧ H l ≠ none
  | _ :: _, _ :: _, _, ⟨⟨hz, h0, vs, h1, h2⟩, r⟩, m => by
    rcases List.mem_cons.mp m with rfl | m
    · exact ⟨h0, by rw [h1]; simp⟩
    · exact DL.there r m
  | [], _, _, _, m => nomatch m
  | _ :: _, [], _, h, _ => h.elim

def BoxOk (k : Kx) (H0 H : Hp) (b : Bx) : Prop := match k.bx with
  | .no => True
  | .draw x y => x ≠ y ∧ H0 x = none ∧ H0 y = none ∧ H x = some (.lst [.ref y, .int b.st]) ∧ H y = some (.lst (b.ns.map V.int))
  | .self a C => H0 a = none ∧ ∃ dx vs, H a = some (.ins C dx (b.fs.zip vs)) ∧ b.fs.length = vs.length ∧ IsL k H0 b.ds vs
  | .memo a C d => H0 a = none ∧ ∃ dx vs, H a = some (.ins C dx (b.fs.zip vs)) ∧ b.fs.length = vs.length ∧ IsL k H0 b.ds vs ∧ H0 d = none ∧ H d ≠ none
  | .dls a ls => H0 a = none ∧ a ∉ ls ∧ ls.Nodup ∧ b.fs.length = ls.length ∧ H a = some (.dK (kvD b.fs (ls.map V.ref))) ∧ DL k H0 H ls b.ls
def InB (bx : Bk) (a : Addr) : Prop := match bx with
  | .no => False
  | .draw x y => a = x ∨ a = y
  | .self x _ => a = x
  | .memo x _ d => a = x ∨ a = d
  | .dls x ls => a = x ∨ a ∈ ls
theorem BoxOk.at {k : Kx} {H0 H : Hp} {b : Bx} {a : Addr} (h : BoxOk k H0 H b) (i : InB k.bx a) : H0 a = none ∧ H a ≠ none := by
  unfold BoxOk at h
  revert h i
  cases k.bx with
  | no => intro _ i; exact i.elim
  | draw x y =>
    rintro ⟨h1, h2, h3, h4, h5⟩ (rfl | rfl)
    · exact ⟨h2, by rw [h4]; simp⟩
    · exact ⟨h3, by rw [h5]; simp⟩
  | self x C =>
    rintro ⟨h1, dx, vs, h2, _⟩ i
    have i : a = x := i
    subst i
    exact ⟨h1, by rw [h2]; simp⟩
  | memo x C d =>
    rintro ⟨h1, dx, vs, h2, _, _, h3, h4⟩ (rfl | rfl)
    · exact ⟨h1, by rw [h2]; simp⟩
    · exact ⟨h3, h4⟩
  | dls x ls =>
    rintro ⟨h1, _, _, _, h2, h3⟩ (rfl | i)
    · exact ⟨h1, by rw [h2]; simp⟩
    · exact h3.there i
/-- the box reads alone its own objects and what is frozen -/
theorem BoxOk.move {k : Kx} {H0 H H0' H' : Hp} {b : Bx} (h : BoxOk k H0 H b) (e : Same H0 H0') (n : ∀ a, InB k.bx a → H0' a = none) (q : ∀ a o, InB k.bx a → H a = some o → H' a = some o) : BoxOk k H0' H' b := by
  unfold BoxOk at h ⊢
  revert h n q
  cases k.bx with
  | no => intro _ _ _; trivial
  | draw x y =>
    rintro ⟨h1, h2, h3, h4, h5⟩ n q
    exact ⟨h1, n x (.inl rfl), n y (.inr rfl), q _ _ (.inl rfl) h4, q _ _ (.inr rfl) h5⟩
  | self x C =>
    rintro ⟨h1, dx, vs, h2, h3, h4⟩ n q
    exact ⟨n x rfl, dx, vs, q _ _ rfl h2, h3, h4.mono e⟩
  | memo x C d =>
    rintro ⟨h1, dx, vs, h2, h3, h4, h5, h6⟩ n q
    refine ⟨n x (.inl rfl), dx, vs, q _ _ (.inl rfl) h2, h3, h4.mono e, n d (.inr rfl), ?_⟩
    cases hd : H d with
    | none => exact absurd hd h6
    | some o => rw [q _ _ (.inr rfl) hd]; simp
  | dls x ls =>
    rintro ⟨h1, h2, h3, h4, h5, h6⟩ n q
    exact ⟨n x (.inl rfl), h2, h3, h4, q _ _ (.inl rfl) h5, h6.move e (fun l hl => n l (.inr hl)) fun l o hl => q l o (.inr hl)⟩

/-- from (H0, H) to (H0', H'): the frozen part grows by new things alone, all but the box stays -/
structure Tr (bx : Bk) (H0 H H0' H' : Hp) : Prop where
  ext : Same H0 H0'
  sub : Same H0' H'
  keep : ∀ a o, H a = some o → ¬ InB bx a → H' a = some o
  there : ∀ a, H a ≠ none → H' a ≠ none
  new : ∀ a, H0 a = none → H a ≠ none → ¬ InB bx a → H0' a = none
theorem Tr.refl {bx : Bk} {H0 H : Hp} (s : Same H0 H) : Tr bx H0 H H0 H := ⟨Same.refl _, s, fun _ _ h _ => h, fun _ h => h, fun _ h _ _ => h⟩
theorem Tr.trans {bx : Bk} {A B A1 B1 A2 B2 : Hp} (t : Tr bx A B A1 B1) (u : Tr bx A1 B1 A2 B2) : Tr bx A B A2 B2 :=
  ⟨t.ext.trans u.ext, u.sub, fun a o h n => u.keep a o (t.keep a o h n) n, fun a h => u.there a (t.there a h), fun a h n i => u.new a (t.new a h n i) (t.there a n) i⟩
theorem Tr.weak {bx : Bk} {A B A1 B1 : Hp} (t : Tr .no A B A1 B1) : Tr bx A B A1 B1 :=
  ⟨t.ext, t.sub, fun a o h _ => t.keep a o h (fun z => z), t.there, fun a h n _ => t.new a h n fun z => z⟩
theorem BoxOk.keep {k : Kx} {A B A1 B1 : Hp} {b : Bx} (h : BoxOk k A B b) (t : Tr .no A B A1 B1) : BoxOk k A1 B1 b :=
  h.move t.ext (fun a i => t.new a (h.at i).1 (h.at i).2 fun z => z) fun a o _ e => t.keep a o e fun z => z
/-- a new frozen object -/
theorem Tr.alloc {H0 H : Hp} {p : Addr} {o : HO} (s : Same H0 H) (h : H p = none) : Tr .no H0 H (upd H0 p o) (upd H p o) := by
  have h0 : H0 p = none := s.free h
  refine ⟨fun a u e => ?_, fun a u e => ?_, fun a u e _ => ?_, fun a e => ?_, fun a e n _ => ?_⟩
  · rw [upd_ne (ne_of_none e h0)]; exact e
  · by_cases ha : a = p
    · subst ha; rw [upd_same] at e ⊢; exact e
    · rw [upd_ne ha] at e ⊢; exact s a u e
  · rw [upd_ne (ne_of_none e h)]; exact e
  · by_cases ha : a = p
    · subst ha; rw [upd_same]; simp
    · rw [upd_ne ha]; exact e
  · by_cases ha : a = p
    · subst ha; exact absurd h n
    · rw [upd_ne ha]; exact e
theorem BoxOk.frz {k : Kx} {A B : Hp} {b : Bx} {l : Addr} {o : HO} (h : BoxOk k A B b) (h0 : A l = none) (n : ¬ InB k.bx l) : BoxOk k (upd A l o) B b :=
  h.move (fun a u q => by rw [upd_ne (ne_of_none q h0)]; exact q) (fun a i => by rw [upd_ne (fun e => by subst e; exact n i)]; exact (h.at i).1) fun _ _ _ e => e
theorem BoxOk.out {k : Kx} {A B : Hp} {b : Bx} {l : Addr} {o : HO} (h : BoxOk k A B b) (n : ¬ InB k.bx l) : BoxOk k A (upd B l o) b :=
  h.move (Same.refl _) (fun a i => (h.at i).1) fun a u i e => by rw [upd_ne (fun z => by subst z; exact n i)]; exact e
/-- a new object that is not frozen -/
theorem Tr.allocO {H0 H : Hp} {p : Addr} {o : HO} (s : Same H0 H) (h : H p = none) : Tr .no H0 H H0 (upd H p o) := by
  refine ⟨Same.refl _, fun a u e => ?_, fun a u e _ => ?_, fun a e => ?_, fun a e n _ => e⟩
  · rw [upd_ne (ne_of_none (s a u e) h)]; exact s a u e
  · rw [upd_ne (ne_of_none e h)]; exact e
  · by_cases ha : a = p
    · subst ha; rw [upd_same]; simp
    · rw [upd_ne ha]; exact e

/-! ### environments -/
inductive Sl where
  | no | val (d : D) | own (ds : List D)
abbrev En := List Sl
structure Cfg where
  k : Kx
  Hs : Hp
  H0s : Hp
abbrev Cfg.bx (g : Cfg) : Bk := g.k.bx

def SlOk (k : Kx) (H0 H : Hp) : Option Sl → Option (Option V) → Prop
  | some (.val d), x => ∃ v, x = some (some v) ∧ Is k H0 d v
  | some (.own ds), x => ∃ l vs, x = some (some (.ref l)) ∧ H0 l = none ∧ H l = some (.lst vs) ∧ IsL k H0 ds vs
  | _, _ => True
def OwnAt (ρ : En) (σ : St) (i : Nat) (l : Addr) : Prop := (∃ ds, ρ[i]? = some (.own ds)) ∧ σ[i]? = some (some (.ref l))

def ZOk (k : Kx) (H : Hp) : Prop := ∀ a, k.z a = true → H a ≠ none
theorem ZOk.new {k : Kx} {H : Hp} (h : ZOk k H) {l : Addr} (e : H l = none) : k.z l = false := by
  cases q : k.z l with
  | false => rfl
  | true => exact absurd e (h l q)
structure Good (g : Cfg) (ρ : En) (b : Bx) (σ : St) (H H0 : Hp) : Prop where
  tr : Tr g.bx g.H0s g.Hs H0 H
  len : ρ.length = σ.length
  slot : ∀ i : Nat, SlOk g.k H0 H ρ[i]? σ[i]?
  apart : ∀ i j l, OwnAt ρ σ i l → OwnAt ρ σ j l → i = j
  mine : ∀ i l, OwnAt ρ σ i l → g.Hs l = none
  box : BoxOk g.k H0 H b
  bin : ∀ a, InB g.bx a → g.Hs a ≠ none
  zin : ZOk g.k g.Hs

section
variable {g : Cfg} {ρ : En} {b b' : Bx} {σ : St} {H H0 H' H0' : Hp}
theorem Good.zok (G : Good g ρ b σ H H0) : ZOk g.k H := fun a q => G.tr.there a (G.zin a q)
theorem Good.sub (G : Good g ρ b σ H H0) : Same H0 H := G.tr.sub
theorem Good.notBox (G : Good g ρ b σ H H0) {i : Nat} {l : Addr} (o : OwnAt ρ σ i l) : ¬ InB g.bx l := fun z => G.bin l z (G.mine i l o)
theorem Good.own (G : Good g ρ b σ H H0) {i : Nat} {ds : List D} (h : ρ[i]? = some (.own ds)) : ∃ l vs, σ[i]? = some (some (.ref l)) ∧ H0 l = none ∧ H l = some (.lst vs) ∧ IsL g.k H0 ds vs := by
  have q := G.slot i
  rw [h] at q
  exact q
theorem Good.val (G : Good g ρ b σ H H0) {i : Nat} {d : D} (h : ρ[i]? = some (.val d)) : ∃ v, σ[i]? = some (some v) ∧ Is g.k H0 d v := by
  have q := G.slot i
  rw [h] at q
  exact q
theorem SlOk.mono {k : Kx} {s : Option Sl} {x : Option (Option V)} (h : SlOk k H0 H s x) (e : Same H0 H0') (n : ∀ l vs, (∃ ds, s = some (.own ds)) → x = some (some (.ref l)) → H0 l = none → H l = some (.lst vs) → H0' l = none) (kp : ∀ l vs, (∃ ds, s = some (.own ds)) → x = some (some (.ref l)) → H l = some (.lst vs) → H' l = some (.lst vs)) : SlOk k H0' H' s x := by
  cases s with
  | none => trivial
  | some s =>
    cases s with
    | no => trivial
    | val d => obtain ⟨v, e1, i⟩ := h; exact ⟨v, e1, i.mono e⟩
    | own ds => obtain ⟨l, vs, e1, h0, hl, i⟩ := h; exact ⟨l, vs, e1, n l vs ⟨ds, rfl⟩ e1 h0 hl, kp l vs ⟨ds, rfl⟩ e1 hl, i.mono e⟩
/-- behind an expression -/
theorem Good.step (G : Good g ρ b σ H H0) (t : Tr g.bx H0 H H0' H') (B : BoxOk g.k H0' H' b') : Good g ρ b' σ H' H0' :=
  ⟨G.tr.trans t, G.len, fun i => (G.slot i).mono t.ext (fun l vs hs hx h hl => t.new l h (by rw [hl]; simp) (G.notBox (i := i) ⟨hs, hx⟩)) fun l vs hs hx hl => t.keep l _ hl (G.notBox (i := i) ⟨hs, hx⟩), G.apart, G.mine, B, G.bin, G.zin⟩
theorem set_get {α : Type} {l : List α} {i j : Nat} {x : α} : (l.set i x)[j]? = if i = j ∧ j < l.length then some x else l[j]? := by
  by_cases h : i = j
  · subst h
    by_cases hl : i < l.length
    · rw [if_pos ⟨rfl, hl⟩, List.getElem?_set_self hl]
    · rw [if_neg (fun z => hl z.2), List.getElem?_eq_none (by rw [List.length_set]; omega), List.getElem?_eq_none (by omega)]
  · rw [if_neg (fun z => h z.1), List.getElem?_set_ne h]
theorem wipe_in {σ : St} {i : Nat} {x : Option V} : ∀ {vs : List Nat}, i ∈ vs → wipe (σ.set i x) vs = wipe σ vs
  | [], h => by cases h
  | v :: vs, h => by
    show (wipe (σ.set i x) vs).set v none = (wipe σ vs).set v none
    have com : ∀ (us : List Nat), wipe (σ.set i x) us = (wipe σ us).set i (if i ∈ us then none else x) := by
      intro us
      induction us with
      | nil => simp [wipe]
      | cons u us ih =>
        show (wipe (σ.set i x) us).set u none = ((wipe σ us).set u none).set i _
        rw [ih]
        by_cases hu : i = u
        · subst hu
          simp [List.set_set]
        · rw [List.set_comm _ _ hu]
          by_cases hm : i ∈ us <;> simp [hm, hu]
    rw [com]
    by_cases hv : i = v
    · subst hv; rw [List.set_set]
    · have hm : i ∈ vs := by
        rcases List.mem_cons.mp h with e | e
        · exact absurd e hv
        · exact e
      have := com vs
      rw [wipe_in hm] at this
      rw [← this]
/-- a value stored -/
theorem Good.setV (G : Good g ρ b σ H H0) {i : Nat} {d : D} {v : V} (r : Is g.k H0 d v) : Good g (ρ.set i (.val d)) b (σ.set i (some v)) H H0 := by
  have own : ∀ {j l}, OwnAt (ρ.set i (.val d)) (σ.set i (some v)) j l → OwnAt ρ σ j l := by
    rintro j l ⟨⟨ds, e1⟩, e2⟩
    rw [set_get] at e1 e2
    split at e1
    · cases e1
    · rename_i hn
      rw [if_neg (by rw [← G.len]; exact hn)] at e2
      exact ⟨⟨ds, e1⟩, e2⟩
  refine ⟨G.tr, by rw [List.length_set, List.length_set]; exact G.len, fun j => ?_, fun j j' l o o' => G.apart j j' l (own o) (own o'), fun j l o => G.mine j l (own o), G.box, G.bin, G.zin⟩
  rw [set_get, set_get, ← G.len]
  split
  · exact ⟨v, rfl, r⟩
  · exact G.slot j
/-- a new own list stored -/
theorem Good.setO (G : Good g ρ b σ H H0) {i : Nat} {ds : List D} {l : Addr} {vs : List V} (hs : g.Hs l = none) (h0 : H0 l = none) (hl : H l = some (.lst vs)) (r : IsL g.k H0 ds vs)
    (hn : ∀ j, OwnAt ρ σ j l → j = i) : Good g (ρ.set i (.own ds)) b (σ.set i (some (.ref l))) H H0 := by
  have own : ∀ {j l'}, OwnAt (ρ.set i (.own ds)) (σ.set i (some (.ref l))) j l' → (j = i ∧ l' = l) ∨ (j ≠ i ∧ OwnAt ρ σ j l') := by
    rintro j l' ⟨⟨ds', e1⟩, e2⟩
    rw [set_get] at e1 e2
    by_cases hj : i = j
    · subst hj
      left
      refine ⟨rfl, ?_⟩
      by_cases hlt : i < σ.length
      · rw [if_pos ⟨rfl, hlt⟩] at e2
        cases e2; rfl
      · rw [if_neg (fun z => hlt z.2), List.getElem?_eq_none (by omega)] at e2
        cases e2
    · rw [if_neg (fun z => hj z.1)] at e1 e2
      exact .inr ⟨fun z => hj z.symm, ⟨ds', e1⟩, e2⟩
  refine ⟨G.tr, by rw [List.length_set, List.length_set]; exact G.len, fun j => ?_, fun j j' l' o o' => ?_, fun j l' o => ?_, G.box, G.bin, G.zin⟩
  · rw [set_get, set_get, ← G.len]
    split
    · exact ⟨l, vs, rfl, h0, hl, r⟩
    · exact G.slot j
  · rcases own o with ⟨rfl, rfl⟩ | ⟨n1, o1⟩ <;> rcases own o' with ⟨rfl, e⟩ | ⟨n2, o2⟩
    · rfl
    · exact (hn _ o2).symm
    · subst e; exact hn _ o1
    · exact G.apart _ _ _ o1 o2
  · rcases own o with ⟨rfl, rfl⟩ | ⟨n1, o1⟩
    · exact hs
    · exact G.mine _ _ o1
/-- a slot forgotten -/
theorem Good.setN (G : Good g ρ b σ H H0) {i : Nat} {x : Option V} : Good g (ρ.set i .no) b (σ.set i x) H H0 := by
  have own : ∀ {j l}, OwnAt (ρ.set i .no) (σ.set i x) j l → OwnAt ρ σ j l := by
    rintro j l ⟨⟨ds, e1⟩, e2⟩
    rw [set_get] at e1 e2
    split at e1
    · cases e1
    · rename_i hn
      rw [if_neg (by rw [← G.len]; exact hn)] at e2
      exact ⟨⟨ds, e1⟩, e2⟩
  refine ⟨G.tr, by rw [List.length_set, List.length_set]; exact G.len, fun j => ?_, fun j j' l o o' => G.apart j j' l (own o) (own o'), fun j l o => G.mine j l (own o), G.box, G.bin, G.zin⟩
  rw [set_get, set_get, ← G.len]
  split
  · trivial
  · exact G.slot j
/-- an own list changed -/
theorem Good.upd (G : Good g ρ b σ H H0) {i : Nat} {ds es : List D} {l : Addr} {us : List V} (hi : ρ[i]? = some (.own ds)) (hl : σ[i]? = some (some (.ref l))) (r : IsL g.k H0 es us) :
    Good g (ρ.set i (.own es)) b σ (upd H l (.lst us)) H0 := by
  have o : OwnAt ρ σ i l := ⟨⟨ds, hi⟩, hl⟩
  obtain ⟨l', vs, e1, h0, hH, iv⟩ := G.own hi
  rw [hl] at e1
  cases e1
  have hlt : i < σ.length := (List.getElem?_eq_some_iff.mp hl).1
  have own : ∀ {j l'}, OwnAt (ρ.set i (.own es)) σ j l' → OwnAt ρ σ j l' := by
    rintro j l' ⟨⟨ds', e1⟩, e2⟩
    rw [set_get] at e1
    by_cases hj : i = j
    · subst hj; exact ⟨⟨ds, hi⟩, e2⟩
    · rw [if_neg (fun z => hj z.1)] at e1
      exact ⟨⟨ds', e1⟩, e2⟩
  have hs : g.Hs l = none := G.mine i l o
  have nb : ¬ InB g.bx l := G.notBox o
  refine ⟨⟨G.tr.ext, fun a u e => ?_, fun a u e n => ?_, fun a e => ?_, G.tr.new⟩, by rw [List.length_set]; exact G.len, fun j => ?_, fun j j' l' o1 o2 => G.apart j j' l' (own o1) (own o2), fun j l' o1 => G.mine j l' (own o1), ?_, G.bin, G.zin⟩
  · rw [upd_ne (ne_of_none e h0)]; exact G.tr.sub a u e
  · rw [upd_ne (ne_of_none e hs)]; exact G.tr.keep a u e n
  · by_cases ha : a = l
    · subst ha; rw [upd_same]; simp
    · rw [upd_ne ha]; exact G.tr.there a e
  · rw [set_get]
    by_cases hj : i = j
    · subst hj
      rw [if_pos ⟨rfl, by rw [G.len]; exact hlt⟩]
      exact ⟨l, us, hl, h0, upd_same, r⟩
    · rw [if_neg (fun z => hj z.1)]
      refine (G.slot j).mono (Same.refl _) (fun _ _ _ _ h _ => h) fun l' vs' hs' hx hl' => ?_
      have ne : l' ≠ l := fun e => hj (G.apart i j l o ⟨hs', by rw [hx, e]⟩)
      rw [upd_ne ne]; exact hl'
  · exact G.box.out nb
/-- an own list becomes a value -/
theorem Good.freeze (G : Good g ρ b σ H H0) {i : Nat} {ds : List D} (hi : ρ[i]? = some (.own ds)) : ∃ H0', Same H0 H0' ∧ Good g (ρ.set i (.val (.lst false ds))) b σ H H0' := by
  obtain ⟨l, vs, e1, h0, hH, iv⟩ := G.own hi
  have o : OwnAt ρ σ i l := ⟨⟨ds, hi⟩, e1⟩
  have hs := G.mine i l o
  have nb := G.notBox o
  have e0 : Same H0 (L2.upd H0 l (.lst vs)) := fun a u e => by rw [upd_ne (ne_of_none e h0)]; exact e
  have own : ∀ {j l'}, OwnAt (ρ.set i (.val (.lst false ds))) σ j l' → j ≠ i ∧ OwnAt ρ σ j l' := by
    rintro j l' ⟨⟨ds', q1⟩, q2⟩
    rw [set_get] at q1
    by_cases hj : i = j
    · subst hj
      rw [if_pos ⟨rfl, by rw [G.len]; exact (List.getElem?_eq_some_iff.mp e1).1⟩] at q1
      cases q1
    · rw [if_neg (fun z => hj z.1)] at q1
      exact ⟨fun z => hj z.symm, ⟨ds', q1⟩, q2⟩
  refine ⟨L2.upd H0 l (.lst vs), e0, ⟨G.tr.ext.trans e0, fun a u e => ?_, G.tr.keep, G.tr.there, fun a e n i => ?_⟩, by rw [List.length_set]; exact G.len, fun j => ?_, fun j j' l' o1 o2 => G.apart j j' l' (own o1).2 (own o2).2, fun j l' o1 => G.mine j l' (own o1).2, ?_, G.bin, G.zin⟩
  · by_cases ha : a = l
    · subst ha; rw [upd_same] at e; rw [hH]; exact e
    · rw [upd_ne ha] at e; exact G.tr.sub a u e
  · have na : a ≠ l := fun z => n (by rw [z]; exact hs)
    rw [upd_ne na]; exact G.tr.new a e n i
  · rw [set_get]
    by_cases hj : i = j
    · subst hj
      rw [if_pos ⟨rfl, by rw [G.len]; exact (List.getElem?_eq_some_iff.mp e1).1⟩]
      exact ⟨_, e1, .lst upd_same (G.zin.new hs) (iv.mono e0)⟩
    · rw [if_neg (fun z => hj z.1)]
      have q := G.slot j
      cases hr : ρ[j]? with
      | none => trivial
      | some s =>
        rw [hr] at q
        cases s with
        | no => trivial
        | val d => obtain ⟨v, q1, q2⟩ := q; exact ⟨v, q1, q2.mono e0⟩
        | own ds' =>
          obtain ⟨l', vs', q1, q2, q3, q4⟩ := q
          have ne : l' ≠ l := fun e => hj (G.apart i j l o ⟨⟨ds', hr⟩, by rw [q1, e]⟩)
          exact ⟨l', vs', q1, by rw [upd_ne ne]; exact q2, q3, q4.mono e0⟩
  · exact G.box.frz h0 nb
end
end Fw
set_option Elab.async false
set_option linter.all false
set_option maxRecDepth 100000
set_option maxHeartbeats 1000000
/-! Fw2: results, canonical readings, the judgements and the plain rules. -/
namespace Fw
open PySem L2

/-- an exception: its class, its own dict -/
structure Ex where
  cls : Addr
  fs : Option (List Str × List D)
inductive Res (α : Type) where
  | ok (a : α) (b : Bx) | exc (x : Ex) (b : Bx) | bad
def Res.bind {α β : Type} (r : Res α) (k : α → Bx → Res β) : Res β := match r with
  | .ok a b => k a b
  | .exc x b => .exc x b
  | .bad => .bad
/-- what a block comes to -/
inductive Out where
  | nx (ρ : En) (b : Bx) | rt (d : D) (b : Bx) | rto (ds : List D) (b : Bx) | bk (ρ : En) (b : Bx) | ct (ρ : En) (b : Bx) | exc (x : Ex) (b : Bx) | bad
def Res.out {α : Type} (r : Res α) (k : α → Bx → Out) : Out := match r with
  | .ok a b => k a b
  | .exc x b => .exc x b
  | .bad => .bad
def lift {α : Type} (o : Option α) (b : Bx) : Res α := match o with
  | some a => .ok a b
  | none => .bad

def ExAt (k : Kx) (H0 H : Hp) (x : Ex) (cls : Value) (dd : Option Addr) : Prop := cls = .ref x.cls ∧ match x.fs with
  | none => dd = none
  | some (ns, ds) => ∃ a vs, dd = some a ∧ H a = some (.xd (ns.zip vs)) ∧ ns.length = vs.length ∧ IsL k H0 ds vs

def Fin {α : Type} (g : Cfg) (W : WX) (σ : St) (H0 H : Hp) (r : Res α) (k : α → Bx → Hp → Hp → Prop) : Prop := match r with
  | .ok a b => ∀ H0' H', Tr g.bx H0 H H0' H' → BoxOk g.k H0' H' b → k a b H0' H'
  | .exc x b => ∀ H0' H', Tr g.bx H0 H H0' H' → BoxOk g.k H0' H' b → ∀ cls dd, ExAt g.k H0' H' x cls dd → W cls dd σ H'
  | .bad => False
section
variable {α β : Type} {g : Cfg} {W : WX} {σ : St} {H0 H : Hp}
theorem Fin.mono {r : Res α} {k k' : α → Bx → Hp → Hp → Prop} (h : Fin g W σ H0 H r k) (q : ∀ a b H0' H', Tr g.bx H0 H H0' H' → BoxOk g.k H0' H' b → k a b H0' H' → k' a b H0' H') : Fin g W σ H0 H r k' := by
  cases r with
  | ok a b => exact fun H0' H' t B => q a b H0' H' t B (h H0' H' t B)
  | exc x b => exact h
  | bad => exact h
theorem Fin.move {r : Res α} {k : α → Bx → Hp → Hp → Prop} {A B : Hp} (h : Fin g W σ H0 H r k) (t : Tr g.bx H0 H A B) : Fin g W σ A B r k := by
  cases r with
  | ok a b => exact fun H0' H' u B => h H0' H' (t.trans u) B
  | exc x b => exact fun H0' H' u B => h H0' H' (t.trans u) B
  | bad => exact h
theorem Fin.bind {r : Res α} {f : α → Bx → Res β} {k : β → Bx → Hp → Hp → Prop} (h : Fin g W σ H0 H (r.bind f) k) : Fin g W σ H0 H r fun a b H0' H' => Fin g W σ H0' H' (f a b) k := by
  cases r with
  | ok a b =>
    intro H0' H' t B
    show Fin g W σ H0' H' (f a b) k
    have h : Fin g W σ H0 H (f a b) k := h
    cases hf : f a b with
    | ok c b2 => rw [hf] at h; exact fun H0'' H'' t2 B2 => h H0'' H'' (t.trans t2) B2
    | exc x b2 => rw [hf] at h; exact fun H0'' H'' t2 B2 => h H0'' H'' (t.trans t2) B2
    | bad => rw [hf] at h; exact h
  | exc x b => exact h
  | bad => exact h
end

abbrev Fx (α : Type) := En → Bx → Res α
def TX (g : Cfg) (W : WX) (f : Fx D) : TE := fun σ H Q => ∃ ρ b H0, Good g ρ b σ H H0 ∧ Fin g W σ H0 H (f ρ b) fun d _ H0' H' => ∀ v, Is g.k H0' d v → Q v H'
/-- a new list, nobody else's -/
def TXo (g : Cfg) (W : WX) (f : Fx (List D)) : TE := fun σ H Q => ∃ ρ b H0, Good g ρ b σ H H0 ∧ Fin g W σ H0 H (f ρ b) fun ds _ H0' H' =>
  ∀ l vs, H l = none → H0' l = none → H' l = some (.lst vs) → IsL g.k H0' ds vs → Q (.ref l) H'
def TA' (g : Cfg) (W : WX) (f : Fx (List D)) : TA := fun σ H Q => ∃ ρ b H0, Good g ρ b σ H H0 ∧ Fin g W σ H0 H (f ρ b) fun ds _ H0' H' => ∀ vs, IsL g.k H0' ds vs → Q vs H'
def TT' (g : Cfg) (W : WX) (f : Fx Bool) : TT := fun σ H Q => ∃ ρ b H0, Good g ρ b σ H H0 ∧ Fin g W σ H0 H (f ρ b) fun c _ _ H' => Q c H'

def PX (X : Cx) (g : Cfg) (W : WX) (e : Expr) (f : Fx D) : Prop := PE X e (TX g W f)
def PN (X : Cx) (g : Cfg) (W : WX) (e : Expr) (f : Fx (List D)) : Prop := PE X e (TXo g W f)
def PL (X : Cx) (g : Cfg) (W : WX) (es : List Expr) (f : Fx (List D)) : Prop := PA X es (TA' g W f)
def PQ (X : Cx) (g : Cfg) (W : WX) (e : Expr) (f : Fx Bool) : Prop := PT X e (TT' g W f)

theorem pe_imp {X : Cx} {e : Expr} {t t' : TE} (h : PE X e t) (q : ∀ σ H Q, t' σ H Q → t σ H Q) : PE X e t' := ⟨fun pins s σ H Q I z => h.run pins s σ H Q I (q σ H Q z)⟩
theorem pt_imp {X : Cx} {e : Expr} {t t' : TT} (h : PT X e t) (q : ∀ σ H Q, t' σ H Q → t σ H Q) : PT X e t' := ⟨fun pins s σ H Q I z => h.run pins s σ H Q I (q σ H Q z)⟩
theorem pa_imp {X : Cx} {e : List Expr} {t t' : TA} (h : PA X e t) (q : ∀ σ H Q, t' σ H Q → t σ H Q) : PA X e t' := ⟨fun pos pins s σ H Q I z => h.run pos pins s σ H Q I (q σ H Q z)⟩
theorem ps_imp {X : Cx} {e : Stmt} {t t' : TS} (h : PS X e t) (q : ∀ D σ H, t' D σ H → t D σ H) : PS X e t' := ⟨fun pins s σ H D I z => h.run pins s σ H D I (q D σ H z)⟩
theorem pss_imp {X : Cx} {e : List Stmt} {t t' : TS} (h : PSs X e t) (q : ∀ D σ H, t' D σ H → t D σ H) : PSs X e t' := ⟨fun pins s σ H D I z => h.run pins s σ H D I (q D σ H z)⟩

/-! ### the functions -/
def xVar (i : Nat) : Fx D := fun ρ b => match ρ[i]? with
  | some (.val d) => .ok d b
  | _ => .bad
def xC (d : D) : Fx D := fun _ b => .ok d b
def xBin (o : D → D → Option D) (f h : Fx D) : Fx D := fun ρ b => (f ρ b).bind fun x b1 => (h ρ b1).bind fun y b2 => lift (o x y) b2
def xUn (o : D → Option D) (f : Fx D) : Fx D := fun ρ b => (f ρ b).bind fun x b1 => lift (o x) b1
def xNil : Fx (List D) := fun _ b => .ok [] b
def xCons (f : Fx D) (h : Fx (List D)) : Fx (List D) := fun ρ b => (f ρ b).bind fun x b1 => (h ρ b1).bind fun xs b2 => .ok (x :: xs) b2
def xTup (f : Fx (List D)) : Fx D := fun ρ b => (f ρ b).bind fun xs b1 => .ok (.tup xs) b1
def xLst (f : Fx (List D)) : Fx D := fun ρ b => (f ρ b).bind fun xs b1 => .ok (.lst false xs) b1
def asB : D → Option Bool
  | .bl c => some c
  | _ => none
def xT (f : Fx D) : Fx Bool := fun ρ b => (f ρ b).bind fun x b1 => lift (asB x) b1
def xAnd (f h : Fx D) : Fx D := fun ρ b => (f ρ b).bind fun x b1 => match x with
  | .bl true => h ρ b1
  | .bl false => .ok (.bl false) b1
  | _ => .bad
def xOr (f h : Fx D) : Fx D := fun ρ b => (f ρ b).bind fun x b1 => match x with
  | .bl true => .ok (.bl true) b1
  | .bl false => h ρ b1
  | _ => .bad
def xNot (f : Fx D) : Fx D := fun ρ b => (f ρ b).bind fun x b1 => match x with
  | .bl c => .ok (.bl (!c)) b1
  | _ => .bad
def xAndT (f h : Fx Bool) : Fx Bool := fun ρ b => (f ρ b).bind fun c b1 => if c then h ρ b1 else .ok false b1
def xOrT (f h : Fx Bool) : Fx Bool := fun ρ b => (f ρ b).bind fun c b1 => if c then .ok true b1 else h ρ b1
def xNotT (f : Fx Bool) : Fx Bool := fun ρ b => (f ρ b).bind fun c b1 => .ok (!c) b1
def xIf (t : Fx Bool) (f h : Fx D) : Fx D := fun ρ b => (t ρ b).bind fun c b1 => if c then f ρ b1 else h ρ b1
/-- a < b < c -/
def xChain (o o' : D → D → Option D) (f h j : Fx D) : Fx D := fun ρ b => (f ρ b).bind fun x b1 => (h ρ b1).bind fun y b2 => match o x y with
  | some (.bl true) => (j ρ b2).bind fun z b3 => lift (o' y z) b3
  | some (.bl false) => .ok (.bl false) b2
  | _ => .bad

/-- an operator by values is a function of data -/
def OpD (k : Kx) (r : R2) (o : D → D → Option D) : Prop := ∀ (H0 H : Hp) (x y z : D) (vx vy : V), Same H0 H → ZOk k H → Is k H0 x vx → Is k H0 y vy → o x y = some z →
  ∀ Q : VK, (∀ v H0' H', Tr .no H0 H H0' H' → Is k H0' z v → Q v H') → r vx vy H Q
def UnD (k : Kx) (r : V → Hp → VK → Prop) (o : D → Option D) : Prop := ∀ (H0 H : Hp) (x z : D) (vx : V), Same H0 H → ZOk k H → Is k H0 x vx → o x = some z →
  ∀ Q : VK, (∀ v H0' H', Tr .no H0 H H0' H' → Is k H0' z v → Q v H') → r vx H Q
/-- a call by values -/
def ClD (k : Kx) (r : List V → Hp → VK → Prop) (o : List D → Option D) : Prop := ∀ (H0 H : Hp) (xs : List D) (z : D) (vs : List V), Same H0 H → ZOk k H → IsL k H0 xs vs → o xs = some z →
  ∀ Q : VK, (∀ v H0' H', Tr .no H0 H H0' H' → Is k H0' z v → Q v H') → r vs H Q

section
variable {X : Cx} {g : Cfg} {W : WX} {a c e : Expr} {es : List Expr} {f h j : Fx D} {pos : Pos}
theorem px_var (i : Nat) {x : Str} (hN : X.N[i]? = some x := by rfl) (hv : Vis X.env.scope x := by first | exact Or.inl rfl | exact Or.inr (Or.inl rfl) | exact Or.inr (Or.inr rfl)) (hd : (x == ("__debug__" : Str)) = false := by decide)
    (hcd : (x == ("__classdict__" : Str)) = false := by decide) : PX X g W (.Name x pos) (xVar i) := by
  refine pe_imp (pe_var hN hv hd hcd) ?_
  rintro σ H Q ⟨ρ, b, H0, G, F⟩
  unfold xVar at F
  split at F
  · rename_i d hd
    obtain ⟨v, e1, iv⟩ := G.val hd
    exact ⟨v, e1, F H0 H (Tr.refl G.sub) G.box v iv⟩
  · exact F.elim
theorem px_of_c {d : D} {v : V} (hp : PE X e (tC v)) (i : ∀ k H, Is k H d v) : PX X g W e (xC d) := by
  refine pe_imp hp ?_
  rintro σ H Q ⟨ρ, b, H0, G, F⟩
  exact F H0 H (Tr.refl G.sub) G.box v (i _ _)
theorem px_int {i : Int} {j : Nat} : PX X g W (.Constant (.int i) j pos) (xC (.int i)) := px_of_c pe_int fun _ _ => .int i
theorem px_bl {i : Bool} {j : Nat} : PX X g W (.Constant (.bool i) j pos) (xC (.bl i)) := px_of_c pe_bl fun _ _ => .bl i
theorem px_non {j : Nat} : PX X g W (.Constant .none j pos) (xC .non) := px_of_c pe_non fun _ _ => .non
theorem px_str {x : Str} {j : Nat} : PX X g W (.Constant (.str x) j pos) (xC (.str x)) := px_of_c pe_str fun _ _ => .str x
theorem tx_bin {r : R2} {o : D → D → Option D} (hr : OpD g.k r o) {σ : St} {H : Hp} {Q : VK} (z : TX g W (xBin o f h) σ H Q) : tOp r (TX g W f) (TX g W h) σ H Q := by
  obtain ⟨ρ, b, H0, G, F⟩ := z
  refine ⟨ρ, b, H0, G, F.bind.mono fun x b1 H01 H1 t1 B1 F1 vx ix => ⟨ρ, b1, H01, G.step t1 B1, F1.bind.mono fun y b2 H02 H2 t2 B2 F2 vy iy => ?_⟩⟩
  cases ho : o x y with
  | none => rw [ho] at F2; exact F2.elim
  | some w =>
    rw [ho] at F2
    exact hr H02 H2 x y w vx vy t2.sub ((G.step t1 B1).step t2 B2).zok (ix.mono t2.ext) iy ho Q fun v H0' H' t iz => F2 H0' H' t.weak (B2.keep t) v iz
theorem px_bin {op : Operator} {r : R2} {o : D → D → Option D} (ho : OpR X (binaryOp op) r) (hr : OpD g.k r o) (ha : PX X g W a f) (hc : PX X g W c h) : PX X g W (.BinOp a op c pos) (xBin o f h) :=
  pe_imp (pe_op ho ha hc) fun _ _ _ => tx_bin hr
theorem px_cmp {op : CmpOp} {r : R2} {o : D → D → Option D} (ho : OpR X (compareOp op) r) (hr : OpD g.k r o) (ha : PX X g W a f) (hc : PX X g W c h) (hm : behindInMarks op c = false := by first | exact nomark _ | rfl) : PX X g W (.Compare a [op] [c] pos) (xBin o f h) :=
  pe_imp (pe_cmpR ho ha hc hm) fun _ _ _ => tx_bin hr
theorem px_ix {r : R2} {o : D → D → Option D} (ho : IxR X r) (hr : OpD g.k r o) (ha : PX X g W a f) (hc : PX X g W c h) (hs : PlainIx c := by exact fun _ _ => rfl) : PX X g W (.Subscript a c pos) (xBin o f h) :=
  pe_imp (pe_ix ho ha hc hs) fun _ _ _ => tx_bin hr
theorem px_un {op : UnaryOp} {r : V → Hp → VK → Prop} {o : D → Option D} (ho : UnR X (unaryOp op) r) (hr : UnD g.k r o) (ha : PX X g W a f) : PX X g W (.UnaryOp op a pos) (xUn o f) := by
  refine pe_imp (pe_un ho ha) ?_
  rintro σ H Q ⟨ρ, b, H0, G, F⟩
  refine ⟨ρ, b, H0, G, F.bind.mono fun x b1 H01 H1 t1 B1 F1 vx ix => ?_⟩
  cases ho : o x with
  | none => rw [ho] at F1; exact F1.elim
  | some w =>
    rw [ho] at F1
    exact hr H01 H1 x w vx t1.sub (G.step t1 B1).zok ix ho Q fun v H0' H' t iz => F1 H0' H' t.weak (B1.keep t) v iz
theorem px_chain {op op' : CmpOp} {r r' : R2} {o o' : D → D → Option D} (ho : OpR X (compareOp op) r) (ho' : OpR X (compareOp op') r') (hr : OpD g.k r o) (hr' : OpD g.k r' o') (ha : PX X g W a f) (hc : PX X g W c h) (he : PX X g W e j)
    (hb : ∀ x y z, o x y = some z → ∃ k, z = .bl k) (hm : lastMarks [op, op'] [c, e] = false := by rfl) : PX X g W (.Compare a [op, op'] [c, e] pos) (xChain o o' f h j) := by
  refine pe_imp (pe_chain ho ho' ha hc he hm) ?_
  rintro σ H Q ⟨ρ, b, H0, G, F⟩
  refine ⟨ρ, b, H0, G, F.bind.mono fun x b1 H01 H1 t1 B1 F1 vx ix => ⟨ρ, b1, H01, G.step t1 B1, F1.bind.mono fun y b2 H02 H2 t2 B2 F2 vy iy => ?_⟩⟩
  cases ho : o x y with
  | none => simp only [ho] at F2; exact F2.elim
  | some w =>
    obtain ⟨k, rfl⟩ := hb _ _ _ ho
    refine hr H02 H2 x y _ vx vy t2.sub ((G.step t1 B1).step t2 B2).zok (ix.mono t2.ext) iy ho _ fun v H03 H3 t3 iz => ?_
    cases iz
    refine ⟨k, rfl, ?_⟩
    have B3 := B2.keep t3
    simp only [ho] at F2
    cases k with
    | false =>
      rw [if_neg Bool.false_ne_true]
      exact F2 H03 H3 t3.weak B3 _ (.bl false)
    | true =>
      rw [if_pos rfl]
      refine ⟨ρ, b2, H03, ((G.step t1 B1).step t2 B2).step t3.weak B3, ?_⟩
      have F3 : Fin g W σ H03 H3 ((j ρ b2).bind fun z b3 => lift (o' y z) b3) (fun d _ H0' H' => ∀ v, Is g.k H0' d v → Q v H') := Fin.move F2 t3.weak
      refine F3.bind.mono fun z b3 H04 H4 t4 B4 F4 vz iz => ?_
      cases ho2 : o' y z with
      | none => rw [ho2] at F4; exact F4.elim
      | some w2 =>
        rw [ho2] at F4
        exact hr' H04 H4 y z w2 vy vz t4.sub ((((G.step t1 B1).step t2 B2).step t3.weak B3).step t4 B4).zok ((iy.mono t3.ext).mono t4.ext) iz ho2 Q fun v H0' H' t iz => F4 H0' H' t.weak (B4.keep t) v iz
theorem pl_nil : PL X g W [] xNil := by
  refine pa_imp pa_nil ?_
  rintro σ H Q ⟨ρ, b, H0, G, F⟩
  exact F H0 H (Tr.refl G.sub) G.box [] .nil
theorem pl_cons {t : Fx (List D)} (ha : PX X g W e f) (hr : PL X g W es t) (hs : starEach (e :: es) X.env = (false, eval e X.env) :: starEach es X.env := by rfl) : PL X g W (e :: es) (xCons f t) := by
  refine pa_imp (pa_cons ha hr hs) ?_
  rintro σ H Q ⟨ρ, b, H0, G, F⟩
  refine ⟨ρ, b, H0, G, F.bind.mono fun x b1 H01 H1 t1 B1 F1 vx ix => ⟨ρ, b1, H01, G.step t1 B1, F1.bind.mono fun xs b2 H02 H2 t2 B2 F2 vs is => ?_⟩⟩
  exact F2 H02 H2 (Tr.refl t2.sub) B2 _ (.cons (ix.mono t2.ext) is)
def xSz (f : Fx (List D)) : Fx (List D) := fun ρ b => (f ρ b).bind fun xs b1 => if xs.length ≤ 100000 then .ok xs b1 else .bad
theorem sz_of {n : Nat} (h : n ≤ 100000) : n ≤ sizeLine := Nat.le_trans h (by decide)
theorem px_tup {t : Fx (List D)} {n : Nat} (h : PL X g W es t) (hn : es.length ≤ 1000 := by decide) : PX X g W (.Tuple es n pos) (xTup (xSz t)) := by
  refine pe_imp (pe_tup h) ?_
  rintro σ H Q ⟨ρ, b, H0, G, F⟩
  refine ⟨ρ, b, H0, G, F.bind.bind.mono fun xs b1 H01 H1 t1 B1 F1 vs is => ?_⟩
  split at F1
  · rename_i hz
    refine ⟨by rw [← is.length]; exact sz_of hz, fun p hp => ?_⟩
    have F1 := F1 _ _ (Tr.refl t1.sub) B1
    have ta := Tr.alloc (o := .tup vs) t1.sub hp
    exact F1 _ _ ta.weak (B1.keep ta) _ (.tup (.inl (.inl upd_same)) (is.mono ta.ext))
  · exact F1.elim
theorem po_lst {t : Fx (List D)} (h : PL X g W es t) : PN X g W (.List es pos) (xSz t) := by
  refine pe_imp (pe_lst h) ?_
  rintro σ H Q ⟨ρ, b, H0, G, F⟩
  refine ⟨ρ, b, H0, G, F.bind.mono fun xs b1 H01 H1 t1 B1 F1 vs is => ?_⟩
  split at F1
  · rename_i hz
    refine ⟨by rw [← is.length]; exact sz_of hz, fun p hp => ?_⟩
    have ta := Tr.allocO (o := .lst vs) t1.sub hp
    refine F1 _ _ ta.weak (B1.keep ta) p vs ?_ (t1.sub.free hp) upd_same is
    cases q : H p with
    | none => rfl
    | some o => exact absurd hp (t1.there p (by rw [q]; simp))
  · exact F1.elim
/-- a new list as a value -/
theorem px_fz {t : Fx (List D)} (h : PN X g W e t) : PX X g W e (xLst t) := by
  refine pe_imp h ?_
  rintro σ H Q ⟨ρ, b, H0, G, F⟩
  refine ⟨ρ, b, H0, G, ?_⟩
  unfold xLst at F
  cases ht : t ρ b with
  | bad => rw [ht] at F; exact F
  | exc x b1 => rw [ht] at F; exact F
  | ok xs b1 =>
    rw [ht] at F
    intro H01 H1 t1 B1 l vs hn h0 hl is
    have e0 : Same H01 (L2.upd H01 l (.lst vs)) := fun a u e => by rw [upd_ne (ne_of_none e h0)]; exact e
    refine F (L2.upd H01 l (.lst vs)) H1 ⟨t1.ext.trans e0, fun a u e => ?_, t1.keep, t1.there, fun a e n i => ?_⟩ ?_ _ (.lst upd_same (G.zok.new hn) (is.mono e0))
    · by_cases ha : a = l
      · subst ha; rw [upd_same] at e; rw [hl]; exact e
      · rw [upd_ne ha] at e; exact t1.sub a u e
    · have na : a ≠ l := fun z => n (by rw [z]; exact hn)
      rw [upd_ne na]; exact t1.new a e n i
    · refine BoxOk.frz B1 h0 fun z => (G.box.at z).2 hn
end
end Fw
set_option Elab.async false
set_option linter.all false
set_option maxRecDepth 100000
set_option maxHeartbeats 1000000
/-! Fw3: tests, statements, loops. -/
namespace Fw
open PySem L2

section
variable {X : Cx} {g : Cfg} {W : WX} {a c e : Expr} {es rest : List Expr} {f h j : Fx D} {p q r : Fx Bool} {pos : Pos}
theorem pq_val (h : PX X g W e f) (he : ∀ whole, isTrue e X.env whole = (do let v ← whole; standAt e.pos; holding [v] (truthy v)) := by intro _; rfl) : PQ X g W e (xT f) := by
  refine pt_imp (pt_val h he) ?_
  rintro σ H Q ⟨ρ, b, H0, G, F⟩
  refine ⟨ρ, b, H0, G, F.bind.mono fun x b1 H01 H1 t1 B1 F1 vx ix => ?_⟩
  cases ix with
  | bl k => exact ⟨k, rfl, F1 _ _ (Tr.refl t1.sub) B1⟩
  | _ => exact F1.elim
theorem tt_test {f : Fx D} {t : TE} (h : ∀ σ H Q, TX g W f σ H Q → t σ H Q) {σ : St} {H : Hp} {Q : Bool → Hp → Prop} (z : TT' g W (xT f) σ H Q) : tTest t σ H Q := by
  obtain ⟨ρ, b, H0, G, F⟩ := z
  refine h _ _ _ ⟨ρ, b, H0, G, F.bind.mono fun x b1 H01 H1 t1 B1 F1 vx ix => ?_⟩
  cases ix with
  | bl k => exact ⟨k, rfl, F1 _ _ (Tr.refl t1.sub) B1⟩
  | _ => exact F1.elim
theorem pq_cmp {op : CmpOp} {r : R2} {o : D → D → Option D} (ho : OpR X (compareOp op) r) (hr : OpD g.k r o) (ha : PX X g W a f) (hc : PX X g W c h) (hm : behindInMarks op c = false := by first | exact nomark _ | rfl) : PQ X g W (.Compare a [op] [c] pos) (xT (xBin o f h)) :=
  pt_imp (pt_cmpR ho ha hc hm) fun _ _ _ => tt_test fun _ _ _ => tx_bin hr
theorem pq_not (h : PQ X g W e p) : PQ X g W (.UnaryOp .Not e pos) (xNotT p) := by
  refine pt_imp (pt_not h) ?_
  rintro σ H Q ⟨ρ, b, H0, G, F⟩
  exact ⟨ρ, b, H0, G, F.bind.mono fun x b1 H01 H1 t1 B1 F1 => F1 _ _ (Tr.refl t1.sub) B1⟩
def PWd (X : Cx) (g : Cfg) (W : WX) (e : Expr) (f : Fx Bool) : Prop := PW X e (TT' g W f)
theorem pw_imp {X : Cx} {e : Expr} {t t' : TT} (h : PW X e t) (q : ∀ σ H Q, t' σ H Q → t σ H Q) : PW X e t' := ⟨fun w pins s σ H Q I z => h.run w pins s σ H Q I (q σ H Q z)⟩
theorem pwd_and1 (h : PQ X g W a p) : PWd X g W (.BoolOp .And [a] pos) p := pw_and1 h
theorem pwd_or1 (h : PQ X g W a p) : PWd X g W (.BoolOp .Or [a] pos) p := pw_or1 h
theorem pwd_and {b : Expr} (h : PQ X g W a p) (k : PWd X g W (.BoolOp .And (b :: rest) pos) q) : PWd X g W (.BoolOp .And (a :: b :: rest) pos) (xAndT p q) := by
  refine pw_imp (pw_and h k) ?_
  rintro σ H Q ⟨ρ, b, H0, G, F⟩
  refine ⟨ρ, b, H0, G, F.bind.mono fun x b1 H01 H1 t1 B1 F1 => ?_⟩
  cases x with
  | true => rw [if_pos rfl]; exact ⟨ρ, b1, H01, G.step t1 B1, F1⟩
  | false => rw [if_neg Bool.false_ne_true]; exact F1 _ _ (Tr.refl t1.sub) B1
theorem pwd_or {b : Expr} (h : PQ X g W a p) (k : PWd X g W (.BoolOp .Or (b :: rest) pos) q) : PWd X g W (.BoolOp .Or (a :: b :: rest) pos) (xOrT p q) := by
  refine pw_imp (pw_or h k) ?_
  rintro σ H Q ⟨ρ, b, H0, G, F⟩
  refine ⟨ρ, b, H0, G, F.bind.mono fun x b1 H01 H1 t1 B1 F1 => ?_⟩
  cases x with
  | true => rw [if_pos rfl]; exact F1 _ _ (Tr.refl t1.sub) B1
  | false => rw [if_neg Bool.false_ne_true]; exact ⟨ρ, b1, H01, G.step t1 B1, F1⟩
theorem PWd.toQ (h : PWd X g W e p) : PQ X g W e p := PW.pt h
/-- values of truth -/
theorem px_one {op : BoolOp} (h : PX X g W a f) : PX X g W (.BoolOp op [a] pos) f := pe_one h
theorem px_and {b : Expr} (ha : PX X g W a f) (hb : PX X g W (.BoolOp .And (b :: rest) pos) h) : PX X g W (.BoolOp .And (a :: b :: rest) pos) (xAnd f h) := by
  refine pe_imp (pe_and ha hb) ?_
  rintro σ H Q ⟨ρ, b, H0, G, F⟩
  refine ⟨ρ, b, H0, G, F.bind.mono fun x b1 H01 H1 t1 B1 F1 vx ix => ?_⟩
  cases ix with
  | bl k =>
    refine ⟨k, rfl, ?_⟩
    cases k with
    | true => rw [if_pos rfl]; exact ⟨ρ, b1, H01, G.step t1 B1, F1⟩
    | false => rw [if_neg Bool.false_ne_true]; exact F1 _ _ (Tr.refl t1.sub) B1 _ (.bl false)
  | _ => exact F1.elim
theorem px_or {b : Expr} (ha : PX X g W a f) (hb : PX X g W (.BoolOp .Or (b :: rest) pos) h) : PX X g W (.BoolOp .Or (a :: b :: rest) pos) (xOr f h) := by
  refine pe_imp (pe_or ha hb) ?_
  rintro σ H Q ⟨ρ, b, H0, G, F⟩
  refine ⟨ρ, b, H0, G, F.bind.mono fun x b1 H01 H1 t1 B1 F1 vx ix => ?_⟩
  cases ix with
  | bl k =>
    refine ⟨k, rfl, ?_⟩
    cases k with
    | true => rw [if_pos rfl]; exact F1 _ _ (Tr.refl t1.sub) B1 _ (.bl true)
    | false => rw [if_neg Bool.false_ne_true]; exact ⟨ρ, b1, H01, G.step t1 B1, F1⟩
  | _ => exact F1.elim
theorem px_not (ha : PX X g W a f) : PX X g W (.UnaryOp .Not a pos) (xNot f) := by
  refine pe_imp (pe_not ha) ?_
  rintro σ H Q ⟨ρ, b, H0, G, F⟩
  refine ⟨ρ, b, H0, G, F.bind.mono fun x b1 H01 H1 t1 B1 F1 vx ix => ?_⟩
  cases ix with
  | bl k => exact ⟨k, rfl, F1 _ _ (Tr.refl t1.sub) B1 _ (.bl _)⟩
  | _ => exact F1.elim
theorem px_if (ht : PQ X g W c p) (ha : PX X g W a f) (hb : PX X g W e h) : PX X g W (.IfExp c a e pos) (xIf p f h) := by
  refine pe_imp (pe_ifExp ht ha hb) ?_
  rintro σ H Q ⟨ρ, b, H0, G, F⟩
  refine ⟨ρ, b, H0, G, F.bind.mono fun x b1 H01 H1 t1 B1 F1 => ?_⟩
  cases x with
  | true => rw [if_pos rfl]; exact ⟨ρ, b1, H01, G.step t1 B1, F1⟩
  | false => rw [if_neg Bool.false_ne_true]; exact ⟨ρ, b1, H01, G.step t1 B1, F1⟩
end

/-! ### statements -/
abbrev Fs := En → Bx → Out
def FinS (g : Cfg) (W : WX) (HB : Hp) (o : Out) (Dd : Ends) : Prop := match o with
  | .nx ρ b => ∀ σ H H0, Good g ρ b σ H H0 → Same HB H0 → Dd.nx σ H
  | .rt d b => ∀ v H H0, Tr g.bx g.H0s g.Hs H0 H → BoxOk g.k H0 H b → Is g.k H0 d v → Dd.rt v H
  | .rto ds b => ∀ l vs H H0, Tr g.bx g.H0s g.Hs H0 H → BoxOk g.k H0 H b → g.Hs l = none → H0 l = none → H l = some (.lst vs) → IsL g.k H0 ds vs → Dd.rt (.ref l) H
  | .bk ρ b => ∀ σ H H0, Good g ρ b σ H H0 → Same HB H0 → Dd.bk σ H
  | .ct ρ b => ∀ σ H H0, Good g ρ b σ H H0 → Same HB H0 → Dd.ct σ H
  | .exc x b => ∀ cls dd σ H H0, Tr g.bx g.H0s g.Hs H0 H → BoxOk g.k H0 H b → ExAt g.k H0 H x cls dd → W cls dd σ H
  | .bad => False
def TB (g : Cfg) (W : WX) (k : Fs) : TS := fun Dd σ H => ∃ ρ b H0, Good g ρ b σ H H0 ∧ FinS g W H0 (k ρ b) Dd
theorem FinS.base {g : Cfg} {W : WX} {A B : Hp} {o : Out} {Dd : Ends} (F : FinS g W A o Dd) (e : Same A B) : FinS g W B o Dd := by
  cases o with
  | nx ρ b => exact fun σ H H0 G q => F σ H H0 G (e.trans q)
  | bk ρ b => exact fun σ H H0 G q => F σ H H0 G (e.trans q)
  | ct ρ b => exact fun σ H H0 G q => F σ H H0 G (e.trans q)
  | _ => exact F
def PB (X : Cx) (g : Cfg) (W : WX) (ss : List Stmt) (k : Fs) : Prop := PSs X ss (TB g W k)
def P1 (X : Cx) (g : Cfg) (W : WX) (s : Stmt) (k : Fs) : Prop := PS X s (TB g W k)

def kNext : Fs := fun ρ b => .nx ρ b
def kSeq (k k' : Fs) : Fs := fun ρ b => match k ρ b with
  | .nx ρ' b' => k' ρ' b'
  | o => o
def kIf (t : Fx Bool) (k k' : Fs) : Fs := fun ρ b => (t ρ b).out fun c b1 => if c then k ρ b1 else k' ρ b1
def kRet (f : Fx D) : Fs := fun ρ b => (f ρ b).out fun d b1 => .rt d b1
def kRetO (f : Fx (List D)) : Fs := fun ρ b => (f ρ b).out fun d b1 => .rto d b1
def kDrop (f : Fx D) : Fs := fun ρ b => (f ρ b).out fun _ b1 => .nx ρ b1
abbrev Pat := D → En → Option En
def pName (i : Nat) : Pat := fun d ρ => some (ρ.set i (.val d))
def pTups : List Pat → List D → En → Option En
  | [], [], ρ => some ρ
  | p :: ps, d :: ds, ρ => (p d ρ).bind (pTups ps ds)
  | _, _, _ => none
def pTup (ps : List Pat) : Pat := fun d ρ => match d with
  | .tup ds => pTups ps ds ρ
  | _ => none
def kAsg (f : Fx D) (p : Pat) : Fs := fun ρ b => (f ρ b).out fun d b1 => match p d ρ with
  | some ρ' => .nx ρ' b1
  | none => .bad
def kAsgO (f : Fx (List D)) (i : Nat) : Fs := fun ρ b => (f ρ b).out fun ds b1 => .nx (ρ.set i (.own ds)) b1
def frz (i : Nat) (ρ : En) : En := match ρ[i]? with
  | some (.own ds) => ρ.set i (.val (.lst false ds))
  | _ => ρ
def kFrz (i : Nat) (k : Fs) : Fs := fun ρ b => k (frz i ρ) b

/-- is: the slots that the pattern stores -/
def Wp (is : List Nat) (σ σ' : St) : Prop := ∀ vs : List Nat, (∀ i ∈ is, i ∈ vs) → wipe σ' vs = wipe σ vs
def PGd (X : Cx) (g : Cfg) (tg : Expr) (is : List Nat) (p : Pat) : Prop := PG X tg fun v σ H Q => ∃ ρ b H0 d ρ', Good g ρ b σ H H0 ∧ Is g.k H0 d v ∧ p d ρ = some ρ' ∧ ∀ σ', Good g ρ' b σ' H H0 → Wp is σ σ' → Q σ' H
def PGsd (X : Cx) (g : Cfg) (tgs : List Expr) (is : List Nat) (ps : List Pat) : Prop := PGs X tgs fun vs σ H Q => ∃ ρ b H0 ds ρ', Good g ρ b σ H H0 ∧ IsL g.k H0 ds vs ∧ pTups ps ds ρ = some ρ' ∧ ∀ σ', Good g ρ' b σ' H H0 → Wp is σ σ' → Q σ' H
theorem pg_imp {X : Cx} {e : Expr} {t t' : TG} (h : PG X e t) (q : ∀ v σ H Q, t' v σ H Q → t v σ H Q) : PG X e t' := ⟨fun pins s σ H v u Q I r z => h.run pins s σ H v u Q I r (q v σ H Q z)⟩
theorem pgs_imp {X : Cx} {e : List Expr} {t t' : TGs} (h : PGs X e t) (q : ∀ v σ H Q, t' v σ H Q → t v σ H Q) : PGs X e t' := ⟨fun pins s σ H v u Q I r z => h.run pins s σ H v u Q I r (q v σ H Q z)⟩

section
variable {X : Cx} {g : Cfg} {W : WX} {a c e : Expr} {es : List Expr} {f h : Fx D} {p q : Fx Bool} {pos : Pos} {st : Stmt} {ss : List Stmt} {k k' : Fs} {fo : Fx (List D)}
theorem Good.trs {ρ : En} {b b' : Bx} {σ : St} {H H0 H' H0' : Hp} (G : Good g ρ b σ H H0) (t : Tr g.bx H0 H H0' H') : Tr g.bx g.H0s g.Hs H0' H' := G.tr.trans t
/-- from an expression's end to a statement's -/
theorem fin_out {α : Type} {r : Res α} {kk : α → Bx → Out} {ρ : En} {b : Bx} {σ : St} {H H0 : Hp} {Dd : Ends} (G : Good g ρ b σ H H0) (F : FinS g W H0 (r.out kk) Dd) :
    Fin g W σ H0 H r fun a b1 H01 H1 => FinS g W H01 (kk a b1) Dd := by
  cases r with
  | ok a b1 => exact fun _ _ t _ => FinS.base F t.ext
  | exc x b1 => exact fun H01 H1 t B cls dd ex => F cls dd σ H1 H01 (G.trs (b' := b1) t) B ex
  | bad => exact F
theorem pb_nil : PB X g W [] kNext := by
  refine pss_imp pss_nil ?_
  rintro Dd σ H ⟨ρ, b, H0, G, F⟩
  exact F σ H H0 G (Same.refl _)
theorem FinS.seq {ρ : En} {b : Bx} {Dd : Ends} {HB : Hp} (F : FinS g W HB (kSeq k k' ρ b) Dd) : FinS g W HB (k ρ b) { Dd with nx := TB g W k' Dd } := by
  unfold kSeq at F
  cases hk : k ρ b with
  | nx ρ' b' => rw [hk] at F; exact fun σ' H' H0' G' q => ⟨ρ', b', H0', G', FinS.base F q⟩
  | _ => rw [hk] at F; exact F
theorem pb_cons (h1 : P1 X g W st k) (h2 : PB X g W ss k') : PB X g W (st :: ss) (kSeq k k') := by
  refine pss_imp (pss_cons h1 h2) ?_
  rintro Dd σ H ⟨ρ, b, H0, G, F⟩
  exact ⟨ρ, b, H0, G, F.seq⟩
theorem pb_one (h1 : P1 X g W st k) : PB X g W [st] k := pss_one h1
theorem Good.frz {ρ : En} {b : Bx} {σ : St} {H H0 : Hp} (G : Good g ρ b σ H H0) (i : Nat) : ∃ H0', Same H0 H0' ∧ Good g (frz i ρ) b σ H H0' := by
  unfold Fw.frz
  split
  · rename_i ds h; exact G.freeze h
  · exact ⟨H0, Same.refl _, G⟩
theorem pb_frz (i : Nat) (h : PB X g W ss k) : PB X g W ss (kFrz i k) := by
  refine pss_imp h ?_
  rintro Dd σ H ⟨ρ, b, H0, G, F⟩
  obtain ⟨H0', q, G'⟩ := G.frz i
  exact ⟨_, b, H0', G', FinS.base F q⟩
theorem p1_frz (i : Nat) (h : P1 X g W st k) : P1 X g W st (kFrz i k) := by
  refine ps_imp h ?_
  rintro Dd σ H ⟨ρ, b, H0, G, F⟩
  obtain ⟨H0', q, G'⟩ := G.frz i
  exact ⟨_, b, H0', G', FinS.base F q⟩
theorem p1_if (ht : PQ X g W c p) (h1 : PB X g W ss k) {ss' : List Stmt} (h2 : PB X g W ss' k') : P1 X g W (.If c ss ss' pos) (kIf p k k') := by
  refine ps_imp (ps_if ht h1 h2) ?_
  rintro Dd σ H ⟨ρ, b, H0, G, F⟩
  refine ⟨ρ, b, H0, G, (fin_out G F).mono fun x b1 H01 H1 t1 B1 F1 => ?_⟩
  cases x with
  | true => rw [if_pos rfl]; exact ⟨ρ, b1, H01, G.step t1 B1, F1⟩
  | false => rw [if_neg Bool.false_ne_true]; exact ⟨ρ, b1, H01, G.step t1 B1, F1⟩
theorem p1_ret (h : PX X g W e f) : P1 X g W (.Return (some e) pos) (kRet f) := by
  refine ps_imp (ps_ret h) ?_
  rintro Dd σ H ⟨ρ, b, H0, G, F⟩
  exact ⟨ρ, b, H0, G, (fin_out G F).mono fun x b1 H01 H1 t1 B1 F1 v iv => F1 v H1 H01 (G.trs (b' := b1) t1) B1 iv⟩
theorem p1_retO (h : PN X g W e fo) : P1 X g W (.Return (some e) pos) (kRetO fo) := by
  refine ps_imp (ps_ret h) ?_
  rintro Dd σ H ⟨ρ, b, H0, G, F⟩
  refine ⟨ρ, b, H0, G, (fin_out G F).mono fun x b1 H01 H1 t1 B1 F1 l vs hn h0 hl iv => F1 l vs H1 H01 (G.trs (b' := b1) t1) B1 ?_ h0 hl iv⟩
  cases q : g.Hs l with
  | none => rfl
  | some o => exact absurd hn (G.tr.there l (by rw [q]; simp))
/-- return x, x an own list -/
def kRetV (i : Nat) : Fs := fun ρ b => match ρ[i]? with
  | some (.own ds) => .rto ds b
  | some (.val d) => .rt d b
  | _ => .bad
theorem p1_retV (i : Nat) {x : Str} {p2 : Pos} (hN : X.N[i]? = some x := by rfl) (hv : Vis X.env.scope x := by first | exact Or.inl rfl | exact Or.inr (Or.inl rfl) | exact Or.inr (Or.inr rfl)) (hd : (x == ("__debug__" : Str)) = false := by decide)
    (hcd : (x == ("__classdict__" : Str)) = false := by decide) : P1 X g W (.Return (some (.Name x p2)) pos) (kRetV i) := by
  refine ps_imp (ps_ret (pe_var hN hv hd hcd)) ?_
  rintro Dd σ H ⟨ρ, b, H0, G, F⟩
  unfold kRetV at F
  split at F
  · rename_i ds hi
    obtain ⟨l, vs, e1, h0, hl, iv⟩ := G.own hi
    exact ⟨_, e1, F l vs H H0 G.tr G.box (G.mine i l ⟨⟨ds, hi⟩, e1⟩) h0 hl iv⟩
  · rename_i d hi
    obtain ⟨v, e1, iv⟩ := G.val hi
    exact ⟨v, e1, F v H H0 G.tr G.box iv⟩
  · exact F.elim
theorem p1_retN : P1 X g W (.Return none pos) (kRet (xC .non)) := by
  refine ps_imp ps_retN ?_
  rintro Dd σ H ⟨ρ, b, H0, G, F⟩
  exact F _ H H0 G.tr G.box .non
theorem p1_drop (h : PX X g W e f) (hs : swapsWith e none pos.line X.env = pure false := by rfl) : P1 X g W (.Expr e pos) (kDrop f) := by
  refine ps_imp (ps_expr h hs) ?_
  rintro Dd σ H ⟨ρ, b, H0, G, F⟩
  exact ⟨ρ, b, H0, G, (fin_out G F).mono fun x b1 H01 H1 t1 B1 F1 v iv => F1 σ H1 H01 (G.step t1 B1) (Same.refl _)⟩
theorem p1_pass : P1 X g W (.Pass pos) kNext := by
  refine ps_imp ps_pass ?_
  rintro Dd σ H ⟨ρ, b, H0, G, F⟩
  exact F σ H H0 G (Same.refl _)
theorem p1_never : P1 X g W st (fun _ _ => .bad) := by
  refine ps_imp ps_never ?_
  rintro Dd σ H ⟨ρ, b, H0, G, F⟩
  exact F
theorem pg_n (i : Nat) {x : Str} (hN : X.N.Nodup) (hi : X.N[i]? = some x := by rfl) (hx : Loc X.env.scope x := by first | exact Or.inl rfl | exact Or.inr rfl) (hf : X.fn x = true ∨ X.env.scope.names.lookup x = some .local := by first | exact .inl rfl | exact .inr rfl | assumption) : PGd X g (.Name x pos) [i] (pName i) := by
  refine pg_imp (pg_name hN hi hx hf) ?_
  rintro v σ H Q ⟨ρ, b, H0, d, ρ', G, iv, e, q⟩
  cases e
  exact q _ (G.setV iv) fun vs hv => wipe_in (hv i (List.mem_singleton.mpr rfl))
theorem pgs_0 : PGsd X g [] [] [] := by
  refine pgs_imp pgs_nil ?_
  rintro vs σ H Q ⟨ρ, b, H0, ds, ρ', G, is, e, q⟩
  cases is with
  | nil => cases e; exact ⟨rfl, q σ G fun _ _ => rfl⟩
  | cons h l => cases e
theorem pgs_1 {is js : List Nat} {pt : Pat} {pts : List Pat} (h : PGd X g e is pt) (hr : PGsd X g es js pts) (hs : List.map (fun x => x.snd) (assignEach (e :: es) X.env) = assign e X.env :: List.map (fun x => x.snd) (assignEach es X.env) := by rfl) : PGsd X g (e :: es) (is ++ js) (pt :: pts) := by
  refine pgs_imp (pgs_cons h hr hs) ?_
  rintro vs σ H Q ⟨ρ, b, H0, ds, ρ', G, il, e, q⟩
  cases il with
  | nil => cases e
  | cons h l =>
    rename_i d v ds vs
    have e : (pt d ρ).bind (pTups pts ds) = some ρ' := e
    cases hp : pt d ρ with
    | none => rw [hp] at e; cases e
    | some ρ1 =>
      rw [hp] at e
      exact ⟨v, vs, rfl, ρ, b, H0, d, ρ1, G, h, hp, fun σ1 G1 w1 => ⟨ρ1, b, H0, ds, ρ', G1, l, e, fun σ2 G2 w2 => q σ2 G2 fun us hu => (w2 us fun i hi => hu i (List.mem_append_right _ hi)).trans (w1 us fun i hi => hu i (List.mem_append_left _ hi))⟩⟩
theorem pTups_len : ∀ {ps : List Pat} {ds : List D} {ρ ρ' : En}, pTups ps ds ρ = some ρ' → ds.length = ps.length
  | [], [], _, _, _ => rfl
  | [], _ :: _, _, _, h => by cases h
  | _ :: _, [], _, _, h => by cases h
  | p :: ps, d :: ds, ρ, ρ', h => by
    have h : (p d ρ).bind (pTups ps ds) = some ρ' := h
    cases hp : p d ρ with
    | none => rw [hp] at h; cases h
    | some ρ1 => rw [hp] at h; simp [pTups_len h]
theorem pg_t {is : List Nat} {pts : List Pat} {kk : Nat} (hc : X.calm = true) (hK : X.K = g.k.K) (h : PGsd X g es is pts) (hn : (assignEach es X.env).length = pts.length := by rfl) (hst : (assignEach es X.env).findIdx? (·.1) = none := by rfl) : PGd X g (.Tuple es kk pos) is (pTup pts) := by
  refine pg_imp (pg_tup hc h hn hst) ?_
  rintro v σ H Q ⟨ρ, b, H0, d, ρ', G, iv, e, q⟩
  cases iv with
  | tup ht hl =>
    rename_i a vs ds
    have e : pTups pts ds ρ = some ρ' := e
    exact ⟨a, vs, rfl, hK ▸ same_t G.sub ht, by rw [← hl.length]; exact pTups_len e, ρ, b, H0, ds, ρ', G, hl, e, q⟩
  | _ => cases e
theorem p1_asg {t : Expr} {is : List Nat} {pt : Pat} (h : PX X g W e f) (ht : PGd X g t is pt) (hs : swapsWithSole [t] e pos.line X.env = pure false := by rfl) (hw : swappedStores [t] e X.env = pure none := by rfl)
    (h1 : (assignEach [t] X.env).map (·.2) = [assign t X.env] := by rfl) : P1 X g W (.Assign [t] e pos) (kAsg f pt) := by
  refine ps_imp (ps_asg h ht hs hw h1) ?_
  rintro Dd σ H ⟨ρ, b, H0, G, F⟩
  refine ⟨ρ, b, H0, G, (fin_out G F).mono fun x b1 H01 H1 t1 B1 F1 v iv => ?_⟩
  cases hp : pt x ρ with
  | none => simp only [hp] at F1; exact F1.elim
  | some ρ' =>
    simp only [hp] at F1
    exact ⟨ρ, b1, H01, x, ρ', G.step t1 B1, iv, hp, fun σ' G' _ => F1 σ' H1 H01 G' (Same.refl _)⟩
theorem p1_asgO {t : Str} {p2 : Pos} (i : Nat) (h : PN X g W e fo) (hN : X.N.Nodup) (hi : X.N[i]? = some t := by rfl) (hx : Loc X.env.scope t := by first | exact Or.inl rfl | exact Or.inr rfl) (hs : swapsWith e (some (.Name t p2)) pos.line X.env = pure false := by rfl)
    (hf : X.fn t = true ∨ X.env.scope.names.lookup t = some .local := by first | exact .inl rfl | exact .inr rfl | assumption) : P1 X g W (.Assign [.Name t p2] e pos) (kAsgO fo i) := by
  refine ps_imp (ps_set hN hi hx h hs hf) ?_
  rintro Dd σ H ⟨ρ, b, H0, G, F⟩
  refine ⟨ρ, b, H0, G, (fin_out G F).mono fun x b1 H01 H1 t1 B1 F1 l vs hn h0 hl iv => F1 _ _ _ ((G.step t1 B1).setO ?_ h0 hl iv fun j o => ?_) (Same.refl _)⟩
  · cases q : g.Hs l with
    | none => rfl
    | some o => exact absurd hn (G.tr.there l (by rw [q]; simp))
  · obtain ⟨⟨ds, e1⟩, e2⟩ := o
    obtain ⟨l', vs', q1, q2, q3, q4⟩ := G.own e1
    rw [e2] at q1
    cases q1
    rw [hn] at q3
    cases q3
end
end Fw
set_option Elab.async false
set_option linter.all false
set_option maxRecDepth 100000
set_option maxHeartbeats 1000000
/-! Fw4: loops, comprehensions. -/
namespace Fw
open PySem L2

/-- the walk J yields the data ds while what is frozen at HB stands -/
def Yields (k : Kx) (J : It) (HB : Hp) (ds : List D) : Prop := ∀ (H0 H : Hp) (i : Nat), Same HB H0 → Same H0 H →
  (∀ d, ds[i]? = some d → J.go i H ∧ ∀ x H', J.yld i H x H' → ∃ H0', Tr .no H0 H H0' H' ∧ Is k H0' d x) ∧ (ds.length ≤ i → J.stop i H)

theorem yields_list {k : Kx} {K : PySem.W.Frag} {HB : Hp} {a : Addr} {vs : List V} {ds : List D} (hl : HB a = some (.lst vs)) (il : IsL k HB ds vs) : Yields k (Itl K a) HB ds := by
  intro H0 H i e0 e1
  have hH : SqL K H a vs := .inl (.inl (e1 _ _ (e0 _ _ hl)))
  refine ⟨fun d hd => ?_, fun hi => ⟨vs, hH, by rw [← il.length]; exact hi⟩⟩
  obtain ⟨v, hv, iv⟩ := il.get hd
  refine ⟨⟨vs, v, hH, hv⟩, fun x H' y => ?_⟩
  obtain ⟨rfl, y⟩ := y
  have := y vs hH
  rw [hv] at this
  cases this
  exact ⟨H0, Tr.refl e1, iv.mono e0⟩
theorem yields_sql {k : Kx} {K : PySem.W.Frag} {HB : Hp} {a : Addr} {vs : List V} {ds : List D} (hl : SqL K HB a vs) (il : IsL k HB ds vs) : Yields k (Itl K a) HB ds := by
  intro H0 H i e0 e1
  have hH : SqL K H a vs := same_l e1 (same_l e0 hl)
  refine ⟨fun d hd => ?_, fun hi => ⟨vs, hH, by rw [← il.length]; exact hi⟩⟩
  obtain ⟨v, hv, iv⟩ := il.get hd
  refine ⟨⟨vs, v, hH, hv⟩, fun x H' y => ?_⟩
  obtain ⟨rfl, y⟩ := y
  have := y vs hH
  rw [hv] at this
  cases this
  exact ⟨H0, Tr.refl e1, iv.mono e0⟩
theorem yields_tup {k : Kx} {K : PySem.W.Frag} {HB : Hp} {a : Addr} {vs : List V} {ds : List D} (hl : SqT K HB a vs) (il : IsL k HB ds vs) : Yields k (Itt K a) HB ds := by
  intro H0 H i e0 e1
  have hH : SqT K H a vs := same_t e1 (same_t e0 hl)
  refine ⟨fun d hd => ?_, fun hi => ⟨vs, hH, by rw [← il.length]; exact hi⟩⟩
  obtain ⟨v, hv, iv⟩ := il.get hd
  refine ⟨⟨vs, v, hH, hv⟩, fun x H' y => ?_⟩
  obtain ⟨rfl, y⟩ := y
  have := y vs hH
  rw [hv] at this
  cases this
  exact ⟨H0, Tr.refl e1, iv.mono e0⟩
def rngD (lo : Int) (n : Nat) : List D := (List.range n).map fun i : Nat => D.int (lo + (i : Int))
theorem yields_rng {k : Kx} {HB : Hp} {lo : Int} {n : Nat} : Yields k (Itr lo n) HB (rngD lo n) := by
  intro H0 H i e0 e1
  have hlen : (rngD lo n).length = n := by simp [rngD]
  refine ⟨fun d hd => ?_, fun hi => by rw [hlen] at hi; exact hi⟩
  have hi : i < n := by have := (List.getElem?_eq_some_iff.mp hd).1; rw [hlen] at this; exact this
  refine ⟨hi, fun x H' y => ?_⟩
  obtain ⟨rfl, rfl⟩ := y
  have e : d = .int (lo + (i : Int)) := by
    have : (rngD lo n)[i]? = some (.int (lo + (i : Int))) := by simp [rngD, hi]
    rw [this] at hd
    exact (Option.some.inj hd).symm
  rw [e]
  exact ⟨H0, Tr.refl e1, .int _⟩
def enumD : List D → Nat → List D
  | [], _ => []
  | d :: ds, n => .tup [.int n, d] :: enumD ds (n + 1)
theorem enumD_get : ∀ {ds : List D} {n i : Nat} {d : D}, (enumD ds n)[i]? = some d → ∃ c, ds[i]? = some c ∧ d = .tup [.int ((n + i : Nat) : Int), c]
  | [], _, _, _, h => by simp [enumD] at h
  | c :: ds, n, 0, d, h => by simp [enumD] at h; exact ⟨c, rfl, h.symm⟩
  | c :: ds, n, i + 1, d, h => by
    obtain ⟨e, h1, h2⟩ := enumD_get (ds := ds) (n := n + 1) (i := i) (d := d) (by simpa [enumD] using h)
    refine ⟨e, by simpa using h1, ?_⟩
    rw [h2, show n + 1 + i = n + (i + 1) from by omega]
theorem enumD_len : ∀ (ds : List D) (n : Nat), (enumD ds n).length = ds.length
  | [], _ => rfl
  | _ :: ds, n => by simp [enumD, enumD_len ds (n + 1)]
theorem yields_enum {k : Kx} {K : PySem.W.Frag} {HB : Hp} {a : Addr} {vs : List V} {ds : List D} (hl : HB a = some (.lst vs)) (il : IsL k HB ds vs) : Yields k (Ite K a) HB (enumD ds 0) := by
  intro H0 H i e0 e1
  have hH : SqL K H a vs := .inl (.inl (e1 _ _ (e0 _ _ hl)))
  refine ⟨fun d hd => ?_, fun hi => ⟨vs, hH, by rw [← il.length]; rw [enumD_len] at hi; exact hi⟩⟩
  obtain ⟨c, hc, rfl⟩ := enumD_get hd
  obtain ⟨v, hv, iv⟩ := il.get hc
  refine ⟨⟨vs, v, hH, hv⟩, fun x H' y => ?_⟩
  obtain ⟨T, x', rfl, hT, rfl, y⟩ := y
  have := y vs hH
  rw [hv] at this
  cases this
  have ta := Tr.alloc (o := .tup [.int (i : Nat), v]) e1 hT
  refine ⟨_, ta, .tup (.inl (.inl upd_same)) (.cons ?_ (.cons ((iv.mono e0).mono ta.ext) .nil))⟩
  rw [Nat.zero_add]
  exact .int _
def chD (x : Str) : List D := x.cps.toList.map fun c => .str ⟨#[c]⟩
theorem yields_str {k : Kx} {HB : Hp} {x : Str} : Yields k (Its x) HB (chD x) := by
  intro H0 H i e0 e1
  have hlen : (chD x).length = x.cps.size := by simp [chD]
  refine ⟨fun d hd => ?_, fun hi => by rw [hlen] at hi; exact hi⟩
  have hi : i < x.cps.size := by have := (List.getElem?_eq_some_iff.mp hd).1; rw [hlen] at this; exact this
  refine ⟨hi, fun z H' y => ?_⟩
  obtain ⟨rfl, c, hc, rfl⟩ := y
  have e : d = .str ⟨#[c]⟩ := by
    have : (chD x)[i]? = some (.str ⟨#[c]⟩) := by
      unfold chD
      rw [List.getElem?_map, Array.getElem?_toList, hc]
      rfl
    rw [this] at hd
    exact (Option.some.inj hd).symm
  rw [e]
  exact ⟨H0, Tr.refl e1, .str _⟩

/-- a loop over data -/
def forS (pt : Pat) (k : Fs) : List D → Fs
  | [], ρ, b => .nx ρ b
  | d :: ds, ρ, b => match pt d ρ with
    | none => .bad
    | some ρ1 => match k ρ1 b with
      | .nx ρ2 b2 => forS pt k ds ρ2 b2
      | .ct ρ2 b2 => forS pt k ds ρ2 b2
      | .bk ρ2 b2 => .nx ρ2 b2
      | o => o
section
variable {X : Cx} {g : Cfg} {W : WX} {is : List Nat} {pt : Pat} {k : Fs} {J : It} {HB : Hp} {ds : List D} {Dd : Ends}
theorem for_yields {ρ : En} {b : Bx} {σ : St} {H H0 : Hp} (Y : Yields g.k J HB ds) (G : Good g ρ b σ H H0) (e0 : Same HB H0) (F : FinS g W HB (forS pt k ds ρ b) Dd) :
    ∃ Wd : Nat → Nat → St → Hp → Prop, (∃ m, Wd 0 m σ H) ∧ ∀ i m σ H, Wd i m σ H →
      (J.stop i H ∧ Dd.nx σ H) ∨ (J.go i H ∧ ∃ N : St → Hp → Prop, (∀ σ' H', N σ' H' → ∃ m', m' < m ∧ Wd (i + 1) m' σ' H') ∧
        ∀ x H', J.yld i H x H' → (∃ ρ b H0 d ρ', Good g ρ b σ H' H0 ∧ Is g.k H0 d x ∧ pt d ρ = some ρ' ∧ ∀ σ', Good g ρ' b σ' H' H0 → Wp is σ σ' → TB g W k { Dd with nx := N, ct := N, bk := Dd.nx } σ' H')) := by
  refine ⟨fun i m σ H => m = ds.length - i ∧ i ≤ ds.length ∧ ∃ ρ b H0, Good g ρ b σ H H0 ∧ Same HB H0 ∧ FinS g W HB (forS pt k (ds.drop i) ρ b) Dd, ⟨_, rfl, Nat.zero_le _, ρ, b, H0, G, e0, by rw [List.drop_zero]; exact F⟩, ?_⟩
  rintro i m σ H ⟨rfl, hi, ρ, b, H0, G, e0, F⟩
  obtain ⟨go, stop⟩ := Y H0 H i e0 G.sub
  by_cases hlt : i < ds.length
  · have hd : ds[i]? = some ds[i] := List.getElem?_eq_getElem hlt
    obtain ⟨g1, yl⟩ := go _ hd
    have hdr : ds.drop i = ds[i] :: ds.drop (i + 1) := List.drop_eq_getElem_cons hlt
    rw [hdr] at F
    refine .inr ⟨g1, fun σ' H' => ∃ ρ b H0, Good g ρ b σ' H' H0 ∧ Same HB H0 ∧ FinS g W HB (forS pt k (ds.drop (i + 1)) ρ b) Dd, fun σ' H' z => ⟨ds.length - (i + 1), by omega, rfl, hlt, z⟩, fun x H' y => ?_⟩
    obtain ⟨H0', t, iv⟩ := yl x H' y
    cases hp : pt ds[i] ρ with
    | none => simp only [forS, hp] at F; exact F.elim
    | some ρ1 =>
      simp only [forS, hp] at F
      refine ⟨ρ, b, H0', _, ρ1, G.step t.weak (G.box.keep t), iv, hp, fun σ' G' _ => ⟨ρ1, b, H0', G', ?_⟩⟩
      cases hk : k ρ1 b with
      | nx ρ2 b2 => rw [hk] at F; exact fun σ2 H2 H02 G2 q => ⟨ρ2, b2, H02, G2, e0.trans (t.ext.trans q), F⟩
      | ct ρ2 b2 => rw [hk] at F; exact fun σ2 H2 H02 G2 q => ⟨ρ2, b2, H02, G2, e0.trans (t.ext.trans q), F⟩
      | bk ρ2 b2 => rw [hk] at F; exact fun σ2 H2 H02 G2 q => F σ2 H2 H02 G2 (e0.trans (t.ext.trans q))
      | rt d b2 => rw [hk] at F; exact F
      | rto d b2 => rw [hk] at F; exact F
      | exc x b2 => rw [hk] at F; exact F
      | bad => rw [hk] at F; exact F
  · have e : i = ds.length := by omega
    subst e
    rw [List.drop_length] at F
    exact .inl ⟨stop (Nat.le_refl _), F σ H H0 G e0⟩
end
theorem pi_or {X : Cx} {tg e : Expr} {w w' : TI} (h : PI X tg e w) (h' : PI X tg e w') : PI X tg e fun σ H R => w σ H R ∨ w' σ H R :=
  ⟨fun pins s σ H R I z => z.elim (h.run pins s σ H R I) (h'.run pins s σ H R I)⟩

/-- what is walked: a list, a tuple, a text -/
def seqD : D → Option (List D)
  | .lst _ ds => some ds
  | .sql ds => some ds
  | .tup ds => some ds
  | .str x => some (chD x)
  | _ => none
def xSeq (f : Fx D) : Fx (List D) := fun ρ b => (f ρ b).bind fun d b1 => lift (seqD d) b1
def kFor (fl : Fx (List D)) (pt : Pat) (k : Fs) : Fs := fun ρ b => (fl ρ b).out fun ds b1 => forS pt k ds ρ b1

/-- a source: whatever it is asked, it gives a walk that yields the data -/
def TIs (g : Cfg) (W : WX) (fl : Fx (List D)) : TI := fun σ H R => ∃ ρ b H0, Good g ρ b σ H H0 ∧ Fin g W σ H0 H (fl ρ b) fun ds _ H0' H' => ∀ J, Yields g.k J H0' ds → R J H'
def PIs (X : Cx) (g : Cfg) (W : WX) (tg e : Expr) (fl : Fx (List D)) : Prop := PI X tg e (TIs g W fl)
theorem pi_imp {X : Cx} {tg e : Expr} {t t' : TI} (h : PI X tg e t) (q : ∀ σ H R, t' σ H R → t σ H R) : PI X tg e t' := ⟨fun pins s σ H R I z => h.run pins s σ H R I (q σ H R z)⟩
section
variable {X : Cx} {g : Cfg} {W : WX} {tg e : Expr} {es : List Expr} {f : Fx D} {fl : Fx (List D)} {pos p : Pos}
theorem is_seq (hK : X.K = g.k.K) (h : PX X g W e f) : PIs X g W tg e (xSeq f) := by
  refine pi_imp (pi_or (pi_list h) (pi_or (pi_tup h) (pi_str h))) ?_
  rintro σ H R ⟨ρ, b, H0, G, F⟩
  unfold xSeq at F
  cases hf : f ρ b with
  | bad => rw [hf] at F; exact F.elim
  | exc x b1 =>
    rw [hf] at F
    refine .inl ⟨ρ, b, H0, G, ?_⟩
    rw [hf]
    exact F
  | ok d b1 =>
    rw [hf] at F
    cases d with
    | lst z ds =>
      refine .inl ⟨ρ, b, H0, G, ?_⟩
      rw [hf]
      intro H01 H1 t1 B1 v iv
      cases iv with
      | lst hl _ il => exact ⟨_, rfl, ⟨_, .inl (.inl (t1.sub _ _ hl))⟩, F H01 H1 t1 B1 _ (yields_list hl il)⟩
    | sql ds =>
      refine .inl ⟨ρ, b, H0, G, ?_⟩
      rw [hf]
      intro H01 H1 t1 B1 v iv
      cases iv with
      | sql hl il => exact ⟨_, rfl, ⟨_, hK ▸ same_l t1.sub hl⟩, F H01 H1 t1 B1 _ (yields_sql (hK ▸ hl) il)⟩
    | tup ds =>
      refine .inr (.inl ⟨ρ, b, H0, G, ?_⟩)
      rw [hf]
      intro H01 H1 t1 B1 v iv
      cases iv with
      | tup hl il => exact ⟨_, rfl, ⟨_, hK ▸ same_t t1.sub hl⟩, F H01 H1 t1 B1 _ (yields_tup (hK ▸ hl) il)⟩
    | str x =>
      refine .inr (.inr ⟨ρ, b, H0, G, ?_⟩)
      rw [hf]
      intro H01 H1 t1 B1 v iv
      cases iv with
      | str x => exact ⟨_, rfl, F H01 H1 t1 B1 _ yields_str⟩
    | _ => exact F.elim
def rng1 : List D → Option (List D)
  | [.int n] => if -100000 ≤ n ∧ n ≤ 100000 then some (rngD 0 n.toNat) else none
  | _ => none
def rng2 : List D → Option (List D)
  | [.int m, .int n] => if (-100000 ≤ m ∧ m ≤ 100000) ∧ -100000 ≤ n ∧ n ≤ 100000 then some (rngD m (n - m).toNat) else none
  | _ => none
def enum1 : List D → Option (List D)
  | [.lst _ ds] => some (enumD ds 0)
  | _ => none
def xSrc (o : List D → Option (List D)) (fl : Fx (List D)) : Fx (List D) := fun ρ b => (fl ρ b).bind fun ds b1 => lift (o ds) b1
theorem is_rng1 {a : Expr} (hg : Gl X "range") (hm : X.mg "range" = none) (ha : PL X g W [a] fl) (hs : starEach [a] X.env = [(false, eval a X.env)] := by rfl) : PIs X g W tg (.Call (.Name "range" p) [a] [] pos) (xSrc rng1 fl) := by
  refine pi_imp (pi_range1 hg hm ha hs) ?_
  rintro σ H R ⟨ρ, b, H0, G, F⟩
  refine ⟨ρ, b, H0, G, F.bind.mono fun ds b1 H01 H1 t1 B1 F1 vs is => ?_⟩
  unfold rng1 at F1
  split at F1
  · rename_i n
    cases is with
    | cons i l =>
      cases i; cases l
      split at F1
      · rename_i hn
        exact ⟨n, rfl, by omega, by omega, F1 H01 H1 (Tr.refl t1.sub) B1 _ yields_rng⟩
      · exact F1.elim
  · exact F1.elim
theorem is_rng2 {a c : Expr} (hg : Gl X "range") (hm : X.mg "range" = none) (ha : PL X g W [a, c] fl) (hs : starEach [a, c] X.env = [(false, eval a X.env), (false, eval c X.env)] := by rfl) (hs2 : starEach [c] X.env = [(false, eval c X.env)] := by rfl) :
    PIs X g W tg (.Call (.Name "range" p) [a, c] [] pos) (xSrc rng2 fl) := by
  refine pi_imp (pi_range2 hg hm ha hs hs2) ?_
  rintro σ H R ⟨ρ, b, H0, G, F⟩
  refine ⟨ρ, b, H0, G, F.bind.mono fun ds b1 H01 H1 t1 B1 F1 vs is => ?_⟩
  unfold rng2 at F1
  split at F1
  · rename_i m n
    cases is with
    | cons i l =>
      cases i
      cases l with
      | cons j l =>
        cases j; cases l
        split at F1
        · rename_i hn
          exact ⟨m, n, rfl, by omega, F1 H01 H1 (Tr.refl t1.sub) B1 _ yields_rng⟩
        · exact F1.elim
  · exact F1.elim
theorem is_enum {a : Expr} {elts : List Expr} {kk : Nat} {tpos : Pos} (hg : Gl X "enumerate") (hm : X.mg "enumerate" = none) (ha : PL X g W [a] fl) (hs : starEach [a] X.env = [(false, eval a X.env)] := by rfl) : PIs X g W (.Tuple elts kk tpos) (.Call (.Name "enumerate" p) [a] [] pos) (xSrc enum1 fl) := by
  refine pi_imp (pi_enum hg hm ha hs) ?_
  rintro σ H R ⟨ρ, b, H0, G, F⟩
  refine ⟨ρ, b, H0, G, F.bind.mono fun ds b1 H01 H1 t1 B1 F1 vs is => ?_⟩
  unfold enum1 at F1
  split at F1
  · cases is with
    | cons i l =>
      cases l
      cases i with
      | lst hl _ il => exact ⟨_, _, rfl, .inl (.inl (t1.sub _ _ hl)), F1 H01 H1 (Tr.refl t1.sub) B1 _ (yields_enum hl il)⟩
  · exact F1.elim
theorem p1_for {is : List Nat} {pt : Pat} {k : Fs} {body : List Stmt} (hp : PassesOwn (model X.prog X.w) X.A X.env X.xe) (hc : X.calm = true) (hi : PIs X g W tg e fl) (hg : PGd X g tg is pt) (hb : PB X g W body k)
    (hs : ∀ x, foldedSetIterable e X.env x = pure x := by intro _; rfl) : P1 X g W (.For tg e body [] pos) (kFor fl pt k) := by
  refine ps_imp (ps_for hp hc hi hg hb hs) ?_
  rintro Dd σ H ⟨ρ, b, H0, G, F⟩
  exact ⟨ρ, b, H0, G, (fin_out G F).mono fun ds b1 H01 H1 t1 B1 F1 J Y => for_yields Y (G.step t1 B1) (Same.refl _) F1⟩

/-! ### comprehensions -/
def wipeE (ρ : En) : List Nat → En
  | [] => ρ
  | v :: vs => (wipeE ρ vs).set v .no
theorem Good.wipe {ρ : En} {b : Bx} {σ : St} {H H0 : Hp} (G : Good g ρ b σ H H0) : ∀ vs : List Nat, Good g (wipeE ρ vs) b (L2.wipe σ vs) H H0
  | [] => G
  | v :: vs => (Good.wipe G vs).setN
def compS (pt : Pat) (ft : Fx Bool) (fe : Fx D) (ρ : En) : List D → Bx → Res (List D)
  | [], b => .ok [] b
  | d :: ds, b => match pt d ρ with
    | none => .bad
    | some ρ1 => match ft ρ1 b with
      | .ok true b1 => match fe ρ1 b1 with
        | .ok x b2 => (compS pt ft fe ρ ds b2).bind fun xs b3 => .ok (x :: xs) b3
        | _ => .bad
      | .ok false b1 => compS pt ft fe ρ ds b1
      | _ => .bad
def xComp (fl : Fx (List D)) (vs : List Nat) (pt : Pat) (ft : Fx Bool) (fe : Fx D) : Fx (List D) := fun ρ b => (fl ρ b).bind fun ds b1 => if ds.length ≤ 100000 then compS pt ft fe (wipeE ρ vs) ds b1 else .bad
def W0 : WX := fun _ _ _ _ => False
def PTq (X : Cx) (g : Cfg) (ifs : List Expr) (f : Fx Bool) : Prop := PTs X ifs (TT' g W0 f)
def xYes : Fx Bool := fun _ b => .ok true b
theorem pts_imp {ifs : List Expr} {t t' : TT} (h : PTs X ifs t) (q : ∀ σ H Q, t' σ H Q → t σ H Q) : PTs X ifs t' := ⟨fun pins s σ H Q I z => h.run pins s σ H Q I (q σ H Q z)⟩
theorem ptq_nil : PTq X g [] xYes := by
  refine pts_imp pts_nil ?_
  rintro σ H Q ⟨ρ, b, H0, G, F⟩
  exact F H0 H (Tr.refl G.sub) G.box
theorem ptq_one {c : Expr} {q : Fx Bool} (h : PQ X g W0 c q) : PTq X g [c] q := pts_one h
/-- the loop of a comprehension -/
theorem comp_yields {is vs : List Nat} {pt : Pat} {ft : Fx Bool} {fe : Fx D} {J : It} {ds : List D} {ρ : En} {b : Bx} {σ : St} {HA HA0 : Hp} {L : Addr} {KK : List D → Bx → Hp → Hp → Prop} {Q : VK} (his : ∀ i ∈ is, i ∈ vs) (Y : Yields g.k J HA0 ds) (hz : ds.length ≤ 100000) (G : Good g ρ b σ HA HA0)
    (F : Fin g W σ HA0 HA (compS pt ft fe (wipeE ρ vs) ds b) fun xs _ H0' H' => ∀ l us, HA l = none → H0' l = none → H' l = some (.lst us) → IsL g.k H0' xs us → Q (.ref l) H') (hL : HA L = none) :
    ∃ Wd : Nat → Nat → Hp → Prop, (∃ m, Wd 0 m (upd HA L (.lst []))) ∧ ∀ i m H, Wd i m H → (J.stop i H ∧ Q (.ref L) H) ∨ (J.go i H ∧ ∃ Nx : Hp → Prop, (∀ H', Nx H' → ∃ m', m' < m ∧ Wd (i + 1) m' H') ∧ ∀ x H', J.yld i H x H' →
      (∃ ρ b H0 d ρ', Good g ρ b (L2.wipe σ vs) H' H0 ∧ Is g.k H0 d x ∧ pt d ρ = some ρ' ∧ ∀ σ2, Good g ρ' b σ2 H' H0 → Wp is (L2.wipe σ vs) σ2 → L2.wipe σ2 vs = L2.wipe σ vs ∧ TT' g W0 ft σ2 H' fun c H3 =>
        if c = true then TX g W0 fe σ2 H3 fun y H4 => ∃ acc, H4 L = some (.lst acc) ∧ acc.length < sizeLine ∧ Nx (upd H4 L (.lst (acc ++ [y]))) else Nx H3)) := by
  -- behind i items: the list so far at L, and what is left to do
  let P : Nat → Hp → Prop := fun i H => ∃ b H0 accD accV, Good g (wipeE ρ vs) b (L2.wipe σ vs) H H0 ∧ Tr g.bx HA0 HA H0 H ∧ H0 L = none ∧ H L = some (.lst accV) ∧ IsL g.k H0 accD accV ∧ accV.length ≤ i ∧
    Fin g W σ HA0 HA ((compS pt ft fe (wipeE ρ vs) (ds.drop i) b).bind fun xs b' => .ok (accD ++ xs) b') fun xs _ H0' H' => ∀ l us, HA l = none → H0' l = none → H' l = some (.lst us) → IsL g.k H0' xs us → Q (.ref l) H'
  have nL : ∀ {b : Bx}, BoxOk g.k HA0 HA b → ¬ InB g.bx L := fun B z => (B.at z).2 hL
  have wipe2 : ∀ (τ : St) (us : List Nat), L2.wipe (L2.wipe τ us) us = L2.wipe τ us := by
    intro τ us
    have key : ∀ (us ws : List Nat), (∀ u ∈ ws, u ∈ us) → L2.wipe (L2.wipe τ ws) us = L2.wipe τ us := by
      intro us ws
      induction ws with
      | nil => intro _; rfl
      | cons u ws ih =>
        intro h
        show L2.wipe ((L2.wipe τ ws).set u none) us = _
        rw [wipe_in (h u List.mem_cons_self), ih fun v hv => h v (List.mem_cons_of_mem _ hv)]
    exact key us us fun _ h => h
  refine ⟨fun i m H => m = ds.length - i ∧ i ≤ ds.length ∧ P i H, ⟨_, rfl, Nat.zero_le _, ?_⟩, ?_⟩
  · have ta := Tr.allocO (o := .lst []) G.sub hL
    refine ⟨b, HA0, [], [], (G.step ta.weak (G.box.keep ta)).wipe vs, ta.weak, G.sub.free hL, upd_same, .nil, Nat.le_refl _, ?_⟩
    rw [List.drop_zero]
    cases hc : compS pt ft fe (wipeE ρ vs) ds b with
    | ok xs b' => rw [hc] at F; exact F
    | exc x b' => rw [hc] at F; exact F
    | bad => rw [hc] at F; exact F
  · rintro i m H ⟨rfl, hi, b, H0, accD, accV, G1, T, h0L, hHL, iL, hlen, F1⟩
    obtain ⟨go, stop⟩ := Y H0 H i T.ext G1.sub
    by_cases hlt : i < ds.length
    · have hd : ds[i]? = some ds[i] := List.getElem?_eq_getElem hlt
      obtain ⟨g1, yl⟩ := go _ hd
      have hdr : ds.drop i = ds[i] :: ds.drop (i + 1) := List.drop_eq_getElem_cons hlt
      rw [hdr] at F1
      refine .inr ⟨g1, P (i + 1), fun H' z => ⟨ds.length - (i + 1), by omega, rfl, hlt, z⟩, fun x H' y => ?_⟩
      obtain ⟨H0', t, iv⟩ := yl x H' y
      have hnb : ¬ InB g.bx L := nL G.box
      have noN : ∀ a, ¬ InB .no a := fun _ z => z
      cases hp : pt ds[i] (wipeE ρ vs) with
      | none => simp only [compS, hp] at F1; exact F1.elim
      | some ρ1 =>
        simp only [compS, hp] at F1
        refine ⟨wipeE ρ vs, b, H0', _, ρ1, G1.step t.weak (G1.box.keep t), iv, hp, fun σ2 G2 w2 => ⟨?_, ρ1, b, H0', G2, ?_⟩⟩
        · rw [w2 vs his, wipe2]
        · have L1 : H' L = some (.lst accV) := t.keep _ _ hHL (noN _)
          have L0 : H0' L = none := t.new _ h0L (by rw [hHL]; simp) (noN _)
          cases ht : ft ρ1 b with
          | bad => simp only [ht] at F1; exact F1.elim
          | exc x b1 => simp only [ht] at F1; exact F1.elim
          | ok c b1 =>
            intro H03 H3 t3 B3
            have L3 : H3 L = some (.lst accV) := t3.keep _ _ L1 hnb
            have L03 : H03 L = none := t3.new _ L0 (by rw [L1]; simp) hnb
            have T3 : Tr g.bx HA0 HA H03 H3 := (T.trans t.weak).trans t3
            have G3 := (G1.step t.weak (G1.box.keep t)).step t3 B3
            cases c with
            | false =>
              refine iteF ?_
              simp only [ht] at F1
              exact ⟨b1, H03, accD, accV, G3, T3, L03, L3, iL.mono (t.ext.trans t3.ext), Nat.le_succ_of_le hlen, F1⟩
            | true =>
              refine iteT ?_
              simp only [ht] at F1
              refine ⟨ρ1, b1, H03, G2.step t3 B3, ?_⟩
              cases he : fe ρ1 b1 with
              | bad => simp only [he] at F1; exact F1.elim
              | exc x b2 => simp only [he] at F1; exact F1.elim
              | ok z b2 =>
                simp only [he] at F1
                intro H04 H4 t4 B4 v iz
                have L4 : H4 L = some (.lst accV) := t4.keep _ _ L3 hnb
                have L04 : H04 L = none := t4.new _ L03 (by rw [L3]; simp) hnb
                have T4 : Tr g.bx HA0 HA H04 H4 := T3.trans t4
                have G4 := G3.step t4 B4
                refine ⟨accV, L4, Nat.lt_of_lt_of_le (by omega : accV.length < 100000) (by decide), b2, H04, accD ++ [z], accV ++ [v], ?_, ?_, L04, upd_same, ?_, by rw [List.length_append, List.length_singleton]; omega, ?_⟩
                · -- the new list is nobody's slot
                  have no : ∀ j l, OwnAt (wipeE ρ vs) (L2.wipe σ vs) j l → l ≠ L := fun j l o e => by
                    subst e
                    obtain ⟨⟨dd, e1⟩, e2⟩ := o
                    have G0 := G.wipe vs
                    obtain ⟨l', us, q1, q2, q3, _⟩ := G0.own e1
                    rw [e2] at q1; cases q1
                    rw [hL] at q3; cases q3
                  refine ⟨⟨G4.tr.ext, fun a u e => ?_, fun a u e n => ?_, fun a e => ?_, G4.tr.new⟩, G4.len, fun j => ?_, G4.apart, G4.mine, ?_, G4.bin, G4.zin⟩
                  · rw [upd_ne (ne_of_none e L04)]; exact G4.tr.sub a u e
                  · have hne : a ≠ L := fun q => by
                      have := G.tr.there a (by rw [e]; simp)
                      rw [q, hL] at this; exact this rfl
                    rw [upd_ne hne]; exact G4.tr.keep a u e n
                  · by_cases ha : a = L
                    · rw [ha, upd_same]; simp
                    · rw [upd_ne ha]; exact G4.tr.there a e
                  · refine (G4.slot j).mono (Same.refl _) (fun _ _ _ _ h _ => h) fun l us hs' hx hl' => ?_
                    rw [upd_ne (no j l ⟨hs', hx⟩)]; exact hl'
                  · exact B4.out hnb
                · refine ⟨T4.ext, fun a u e => ?_, fun a u e n => ?_, fun a e => ?_, T4.new⟩
                  · rw [upd_ne (ne_of_none e L04)]; exact T4.sub a u e
                  · rw [upd_ne (ne_of_none e hL)]; exact T4.keep a u e n
                  · by_cases ha : a = L
                    · rw [ha, upd_same]; simp
                    · rw [upd_ne ha]; exact T4.there a e
                · exact (iL.mono (t.ext.trans (t3.ext.trans t4.ext))).app (.cons iz .nil)
                · cases hc : compS pt ft fe (wipeE ρ vs) (ds.drop (i + 1)) b2 with
                  | bad => rw [hc] at F1; exact F1.elim
                  | exc x b3 => rw [hc] at F1; exact F1
                  | ok xs b3 =>
                    rw [hc] at F1
                    show Fin g W σ HA0 HA (.ok (accD ++ [z] ++ xs) b3) _
                    rw [List.append_assoc]
                    exact F1
    · have e : i = ds.length := by omega
      subst e
      rw [List.drop_length] at F1
      have F1 : Fin g W σ HA0 HA (.ok (accD ++ []) b) _ := F1
      rw [List.append_nil] at F1
      exact .inl ⟨stop (Nat.le_refl _), F1 H0 H T G1.box L accV hL h0L hHL iL⟩
theorem po_comp {elt iter : Expr} {ifs : List Expr} {scope : Scope} {own : List (Str × Nat)} {is : List Nat} {pt : Pat} {ft : Fx Bool} {fe : Fx D} (hc : X.calm = true) (hN : X.N.Nodup) (hi : PIs X g W tg iter fl) (ok : BlkOk X.N X.env.scope scope own) (his : ∀ i ∈ is, i ∈ own.map (·.2))
    (hg : ∀ (s : Shared) (H : Hp) (C : Addr) (cl : List (Str × Addr)) (fp : List Addr), PGd (X.blk s H scope (compEnvC scope cl C X.env) fp) g tg is pt)
    (ht : ∀ (s : Shared) (H : Hp) (C : Addr) (cl : List (Str × Addr)) (fp : List Addr), PTq (X.blk s H scope (compEnvC scope cl C X.env) fp) g ifs ft)
    (he : ∀ (s : Shared) (H : Hp) (C : Addr) (cl : List (Str × Addr)) (fp : List Addr), PX (X.blk s H scope (compEnvC scope cl C X.env) fp) g W0 elt fe)
    (hs : ∀ x, foldedSetIterable iter X.env x = pure x := by intro _; rfl) : PN X g W (.ListComp elt [⟨tg, iter, ifs, 0⟩] scope pos) (xComp fl (own.map (·.2)) pt ft fe) := by
  refine pe_imp (pe_lc hc hN hi ok hg ht he hs) ?_
  rintro σ H Q ⟨ρ, b, H0, G, F⟩
  refine ⟨ρ, b, H0, G, ?_⟩
  unfold xComp at F
  cases hf : fl ρ b with
  | bad => rw [hf] at F; exact F.elim
  | exc x b1 => rw [hf] at F; exact F
  | ok ds b1 =>
    rw [hf] at F
    intro H01 H1 t1 B1 J Y L hL
    have F : Fin g W σ H0 H (if ds.length ≤ 100000 then compS pt ft fe (wipeE ρ (own.map (·.2))) ds b1 else .bad) _ := F
    split at F
    · rename_i hz
      refine comp_yields (KK := fun _ _ _ _ => True) his Y hz (G.step t1 B1) ((F.move t1).mono fun xs b' H0' H' t B k l us hl h0 hl' il => k l us ?_ h0 hl' il) hL
      cases q : H l with
      | none => rfl
      | some o => exact absurd hl (t1.there l (by rw [q]; simp))
    · exact F.elim
/-- name = [..] -/
theorem p1_setComp {y : Str} {py spos : Pos} {elt iter : Expr} {ifs : List Expr} {scope : Scope} {own : List (Str × Nat)} {is : List Nat} {pt : Pat} {ft : Fx Bool} {fe : Fx D} (i : Nat) (hc : X.calm = true) (hN : X.N.Nodup) (hy : X.N[i]? = some y) (hyl : X.env.scope.names.lookup y = some .local)
    (hsw : swapsWith (.ListComp elt [⟨tg, iter, ifs, 0⟩] scope pos) (some (.Name y py)) spos.line X.env = pure true) (hi : PIs X g W tg iter fl) (ok : BlkOk X.N X.env.scope scope own) (his : ∀ i ∈ is, i ∈ own.map (·.2))
    (hg : ∀ (s : Shared) (H : Hp) (C : Addr) (cl : List (Str × Addr)) (fp : List Addr), PGd (X.blk s H scope (compEnvC scope cl C X.env) fp) g tg is pt)
    (ht : ∀ (s : Shared) (H : Hp) (C : Addr) (cl : List (Str × Addr)) (fp : List Addr), PTq (X.blk s H scope (compEnvC scope cl C X.env) fp) g ifs ft)
    (he : ∀ (s : Shared) (H : Hp) (C : Addr) (cl : List (Str × Addr)) (fp : List Addr), PX (X.blk s H scope (compEnvC scope cl C X.env) fp) g W0 elt fe)
    (hs : ∀ x, foldedSetIterable iter X.env x = pure x := by intro _; rfl) : P1 X g W (.Assign [.Name y py] (.ListComp elt [⟨tg, iter, ifs, 0⟩] scope pos) spos) (kAsgO (xComp fl (own.map (·.2)) pt ft fe) i) := by
  refine ps_imp (ps_setLc hc hN hy hyl hsw hi ok hg ht he hs) ?_
  rintro Dd σ H ⟨ρ, b, H0, G, F⟩
  refine ⟨ρ, b, H0, G, ?_⟩
  have F := fin_out G F
  unfold xComp at F
  cases hf : fl ρ b with
  | bad => rw [hf] at F; exact F.elim
  | exc x b1 => rw [hf] at F; exact F
  | ok ds b1 =>
    rw [hf] at F
    intro H01 H1 t1 B1 J Y L hL
    have F : Fin g W σ H0 H (if ds.length ≤ 100000 then compS pt ft fe (wipeE ρ (own.map (·.2))) ds b1 else .bad) _ := F
    split at F
    · rename_i hz
      refine comp_yields (Q := fun v H' => Dd.nx (σ.set i (some v)) H') (KK := fun _ _ _ _ => True) his Y hz (G.step t1 B1) ((F.move t1).mono fun xs b' H0' H' t B k l us hl h0 hl' il => ?_) hL
      have G2 := (G.step t1 B1).step t B
      refine k _ _ _ (G2.setO ?_ h0 hl' il fun j o => ?_) (Same.refl _)
      · cases q : g.Hs l with
        | none => rfl
        | some o => exact absurd hl ((G.step t1 B1).tr.there l (by rw [q]; simp))
      · obtain ⟨⟨dd, e1⟩, e2⟩ := o
        obtain ⟨l', us', q1, q2, q3, q4⟩ := (G.step t1 B1).own e1
        rw [e2] at q1
        cases q1
        rw [hl] at q3
        cases q3
    · exact F.elim
end
end Fw
set_option Elab.async false
set_option linter.all false
set_option maxRecDepth 100000
set_option maxHeartbeats 1000000
/-! Fw5: defs and their promises, calls, methods, fields; own lists. -/
namespace Fw
open PySem PySem.Spec PyProof.Rows L2

abbrev FD := List D → Bx → Out
def PostD (k : Kx) (H0 H : Hp) (o : Out) (Q : VK) (E : XK) : Prop := match o with
  | .rt d b => ∀ v H0' H', Tr k.bx H0 H H0' H' → BoxOk k H0' H' b → Is k H0' d v → Q v H'
  | .rto ds b => ∀ l vs H0' H', Tr k.bx H0 H H0' H' → BoxOk k H0' H' b → H l = none → H0' l = none → H' l = some (.lst vs) → IsL k H0' ds vs → Q (.ref l) H'
  | .nx _ b => ∀ H0' H', Tr k.bx H0 H H0' H' → BoxOk k H0' H' b → Q .non H'
  | .exc x b => ∀ cls dd H0' H', Tr k.bx H0 H H0' H' → BoxOk k H0' H' b → ExAt k H0' H' x cls dd → E cls dd H'
  | _ => False
/-- the promise: of such data the def makes what F says -/
def spD (K : PySem.W.Frag) (n : Nat) (F : FD) : Sp := fun vs H Q E => vs.length = n ∧ ∃ (bx : Bk) (z : Addr → Bool) (ds : List D) (b : Bx) (H0 : Hp), Same H0 H ∧ ZOk ⟨K, bx, z⟩ H ∧ BoxOk ⟨K, bx, z⟩ H0 H b ∧ IsL ⟨K, bx, z⟩ H0 ds vs ∧ PostD ⟨K, bx, z⟩ H0 H (F ds b) Q E
def startE (n : Nat) (ds : List D) : En := ds.map Sl.val ++ List.replicate (n - ds.length) Sl.no
def runD (n : Nat) (k : Fs) : FD := fun ds b => k (startE n ds) b

theorem good_start {K : PySem.W.Frag} {bx : Bk} {H0 H : Hp} {N : List Str} {ds : List D} {vs : List V} {b : Bx} {z : Addr → Bool} (e : Same H0 H) (zo : ZOk ⟨K, bx, z⟩ H) (B : BoxOk ⟨K, bx, z⟩ H0 H b) (il : IsL ⟨K, bx, z⟩ H0 ds vs) :
    Good ⟨⟨K, bx, z⟩, H, H0⟩ (startE N.length ds) b (L2.start N vs) H H0 := by
  have hl := il.length
  refine ⟨Tr.refl e, ?_, fun i => ?_, ?_, ?_, B, fun a z => (B.at z).2, zo⟩
  · unfold startE L2.start
    rw [List.length_append, List.length_append, List.length_map, List.length_map, List.length_replicate, List.length_replicate, hl]
  · by_cases hi : i < ds.length
    · have h1 : (startE N.length ds)[i]? = some (.val ds[i]) := by
        unfold startE
        rw [List.getElem?_append_left (by rw [List.length_map]; exact hi), List.getElem?_map, List.getElem?_eq_getElem hi]; rfl
      have hi' : i < vs.length := by omega
      have h2 : (L2.start N vs)[i]? = some (some vs[i]) := by
        unfold L2.start
        rw [List.getElem?_append_left (by rw [List.length_map]; exact hi'), List.getElem?_map, List.getElem?_eq_getElem hi']; rfl
      rw [h1, h2]
      obtain ⟨v, hv, iv⟩ := il.get (List.getElem?_eq_getElem hi)
      rw [List.getElem?_eq_getElem hi'] at hv
      cases hv
      exact ⟨_, rfl, iv⟩
    · have h1 : (startE N.length ds)[i]? = some .no ∨ (startE N.length ds)[i]? = none := by
        unfold startE
        rw [List.getElem?_append_right (by rw [List.length_map]; omega), List.getElem?_replicate]
        split
        · exact .inl rfl
        · exact .inr rfl
      rcases h1 with h1 | h1 <;> rw [h1] <;> trivial
  all_goals
    have no : ∀ i l, ¬ OwnAt (startE N.length ds) (L2.start N vs) i l := by
      rintro i l ⟨⟨es, h1⟩, _⟩
      have hm : Sl.own es ∈ startE N.length ds := List.mem_of_getElem? h1
      unfold startE at hm
      rcases List.mem_append.mp hm with h | h
      · obtain ⟨d, _, q⟩ := List.mem_map.mp h; cases q
      · have := List.eq_of_mem_replicate h; cases this
  · exact fun i j l o _ => (no i l o).elim
  · exact fun i l o => (no i l o).elim

section
variable {P : Program} {w : World} {K : PySem.W.Frag} {mg : Str → Option Value} {base : Heap}
/-- a def by its body -/
theorem okD {x qual : Str} {st : Stmt} {f : Addr} {fd : FuncData} {N ps : List Str} {n : Nat} {k : Fs} (F : Fun K x qual st f fd) (S : FnScope N ps (defScope st))
    (hb : ∀ (g : Cfg) (W : WX) (cdv : Value) (A : Around) (outer : List Env) (s : Shared) (H : Hp) (E : XK), g.k.K = K → Takes (cxOf (L2.CX P w) P w K mg base N qual (defScope st) f cdv A outer s H E) W →
      Room n (A.deeper (envOfC qual (defScope st) s.heap.objs.size f cdv)) → PB (cxOf (L2.CX P w) P w K mg base N qual (defScope st) f cdv A outer s H E) g W (defBody st) k) :
    FnOk P w K mg base (L2.CX P w) (n + 1) f fd ps (spD K ps.length (runD N.length k)) := by
  refine F.okX S (fun vs H Q E h => h.1) (fun cdv A outer s H vs Q E hr h => ?_)
  obtain ⟨hlen, bx, z, ds, b, H0, e0, zo, B, il, post⟩ := h
  refine ⟨_, hb ⟨⟨K, bx, z⟩, H, H0⟩ _ cdv A outer s H E rfl (takes_of rfl rfl rfl rfl) hr, startE N.length ds, b, H0, good_start e0 zo B il, ?_⟩
  unfold runD at post
  cases hk : k (startE N.length ds) b with
  | nx ρ b' => rw [hk] at post; exact fun σ H' H0' G _ => post H0' H' G.tr G.box
  | rt d b' => rw [hk] at post; exact fun v H' H0' t B' iv => post v H0' H' t B' iv
  | rto es b' => rw [hk] at post; exact fun l us H' H0' t B' h1 h2 h3 il => post l us H0' H' t B' h1 h2 h3 il
  | exc x b' => rw [hk] at post; exact fun cls dd σ H' H0' t B' ex => post cls dd H0' H' t B' ex
  | bk ρ b' => rw [hk] at post; exact post.elim
  | ct ρ b' => rw [hk] at post; exact post.elim
  | bad => rw [hk] at post; exact post.elim
end

/-- the call's worth: a value (a new list as a value too) -/
def valO : Out → Res D
  | .rt d b => .ok d b
  | .rto ds b => .ok (.lst false ds) b
  | .nx _ b => .ok .non b
  | .exc x b => .exc x b
  | _ => .bad
def ownO : Out → Res (List D)
  | .rto ds b => .ok ds b
  | .exc x b => .exc x b
  | _ => .bad
def noX {α : Type} : Res α → Res α
  | .exc _ _ => .bad
  | r => r
def gate {α : Type} (n : Nat) (ds : List D) (r : Res α) : Res α := if ds.length = n then r else .bad
def xCall (n : Nat) (F : FD) (fl : Fx (List D)) : Fx D := fun ρ b => (fl ρ b).bind fun ds b1 => gate n ds (valO (F ds b1))
def xCallO (n : Nat) (F : FD) (fl : Fx (List D)) : Fx (List D) := fun ρ b => (fl ρ b).bind fun ds b1 => gate n ds (ownO (F ds b1))
def xCallN (n : Nat) (F : FD) (fl : Fx (List D)) : Fx D := fun ρ b => (fl ρ b).bind fun ds b1 => gate n ds (noX (valO (F ds b1)))

section
variable {X : Cx} {g : Cfg} {W : WX} {e o : Expr} {es : List Expr} {f : Fx D} {fl : Fx (List D)} {pos p apos : Pos}
theorem Tr.frz1 {bx : Bk} {H0 H H0' H' : Hp} {l : Addr} {u : HO} (t : Tr bx H0 H H0' H') (hn : H l = none) (h0 : H0' l = none) (hl : H' l = some u) : Tr bx H0 H (upd H0' l u) H' := by
  have e0 : Same H0' (upd H0' l u) := fun a o q => by rw [upd_ne (ne_of_none q h0)]; exact q
  refine ⟨t.ext.trans e0, fun a o q => ?_, t.keep, t.there, fun a q n i => ?_⟩
  · by_cases ha : a = l
    · subst ha; rw [upd_same] at q; rw [hl]; exact q
    · rw [upd_ne ha] at q; exact t.sub a o q
  · have na : a ≠ l := fun z => n (by rw [z]; exact hn)
    rw [upd_ne na]; exact t.new a q n i
/-- a callee's promise gives a value -/
theorem post_val {σ : L2.St} {H0 H : Hp} {oo : Out} {b : Bx} {Q : VK} (zo : ZOk g.k H) (B0 : BoxOk g.k H0 H b) (F : Fin g W σ H0 H (valO oo) fun d _ H0' H' => ∀ v, Is g.k H0' d v → Q v H') : PostD g.k H0 H oo Q (WE W σ) := by
  cases oo with
  | rt d b' => exact fun v H0' H' t B iv => F H0' H' t B v iv
  | rto ds b' =>
    intro l vs H0' H' t B hn h0 hl il
    have nb : ¬ InB g.bx l := fun z => (B0.at z).2 hn
    exact F _ H' (t.frz1 hn h0 hl) (B.frz h0 nb) _ (.lst upd_same (zo.new hn) (il.mono fun a o q => by rw [upd_ne (ne_of_none q h0)]; exact q))
  | nx ρ b' => exact fun H0' H' t B => F H0' H' t B _ .non
  | exc x b' => exact fun cls dd H0' H' t B ex => F H0' H' t B cls dd ex
  | _ => exact F
theorem post_own {σ : L2.St} {H0 H : Hp} {oo : Out} {Q : VK} (F : Fin g W σ H0 H (ownO oo) fun ds _ H0' H' => ∀ l vs, H l = none → H0' l = none → H' l = some (.lst vs) → IsL g.k H0' ds vs → Q (.ref l) H') : PostD g.k H0 H oo Q (WE W σ) := by
  cases oo with
  | rto ds b' => exact fun l vs H0' H' t B hn h0 hl il => F H0' H' t B l vs hn h0 hl il
  | exc x b' => exact fun cls dd H0' H' t B ex => F H0' H' t B cls dd ex
  | _ => exact F.elim
theorem PostD.mono {k : Kx} {H0 H : Hp} {oo : Out} {Q : VK} {E E' : XK} (h : PostD k H0 H oo Q E) (q : ∀ c d H, E c d H → E' c d H) : PostD k H0 H oo Q E' := by
  cases oo with
  | exc x b' => exact fun cls dd H0' H' t B ex => q _ _ _ (h cls dd H0' H' t B ex)
  | _ => exact h

variable {kk : Nat} {ff : Addr} {fd : FuncData} {ps : List Str} {x : Str} {n : Nat} {F : FD} {es' : List Expr}
theorem fin_gate {α : Type} {σ : L2.St} {H0 H : Hp} {n : Nat} {ds : List D} {r : Res α} {k : α → Bx → Hp → Hp → Prop} (h : Fin g W σ H0 H (gate n ds r) k) : ds.length = n ∧ Fin g W σ H0 H r k := by
  unfold gate at h
  split at h
  · rename_i q; exact ⟨q, h⟩
  · exact h.elim
/-- the arguments, then the callee's promise -/
theorem ta_call {γ : Type} {r : List D → Bx → Res γ} {σ : L2.St} {H : Hp} {kk : γ → Bx → Hp → Hp → Prop} {T : List V → Hp → Prop} {ρ : En} {b : Bx} {H0 : Hp} (G : Good g ρ b σ H H0) (F1 : Fin g W σ H0 H ((fl ρ b).bind r) kk)
    (h : ∀ ds b1 H01 H1 vs, Tr g.bx H0 H H01 H1 → ZOk g.k H1 → BoxOk g.k H01 H1 b1 → IsL g.k H01 ds vs → Fin g W σ H01 H1 (r ds b1) kk → T vs H1) : TA' g W fl σ H T := by
  refine ⟨ρ, b, H0, G, F1.bind.mono fun ds b1 H01 H1 t1 B1 F2 vs il => h ds b1 H01 H1 vs t1 (G.step t1 B1).zok B1 il F2⟩
theorem px_call (G : FnOk X.prog X.w X.K X.mg X.base (L2.CX X.prog X.w) kk ff fd ps (spD X.K n F)) (hr : Room kk X.A) (hK : X.K = g.k.K) (tk : Takes X W) (hg : Gl X x) (hm : X.mg x = some (.ref ff)) (hk : PySem.W.keepIn X.K (.ref ff) = true) (hb : Binds X.K fd ps [])
    (ha : PL X g W (e :: es) fl) (hdb : (x == ("__debug__" : Str)) = false := by decide) (he : starEach (e :: es) X.env = (false, eval e X.env) :: starEach es X.env := by rfl) (hpl : (backTo pos (starEach es X.env)).any (·.1) = false := by rfl) :
    PX X g W (.Call (.Name x p) (e :: es) [] pos) (xCall n F fl) := by
  refine pe_imp (pe_callS G hr hg hm hk hb (fun σ => passAt tk σ) ha hdb he hpl) ?_
  rintro σ H Q ⟨ρ, b, H0, G, F1⟩
  refine ta_call G F1 fun ds b1 H01 H1 vs t1 zo B1 il F2 => ?_
  obtain ⟨hz, F3⟩ := fin_gate F2
  refine ⟨by rw [← il.length]; exact hz, g.bx, g.k.z, ds, b1, H01, t1.sub, hK ▸ zo, hK ▸ B1, hK ▸ il, ?_⟩
  rw [hK]
  exact post_val zo B1 F3
theorem po_call (G : FnOk X.prog X.w X.K X.mg X.base (L2.CX X.prog X.w) kk ff fd ps (spD X.K n F)) (hr : Room kk X.A) (hK : X.K = g.k.K) (tk : Takes X W) (hg : Gl X x) (hm : X.mg x = some (.ref ff)) (hk : PySem.W.keepIn X.K (.ref ff) = true) (hb : Binds X.K fd ps [])
    (ha : PL X g W (e :: es) fl) (hdb : (x == ("__debug__" : Str)) = false := by decide) (he : starEach (e :: es) X.env = (false, eval e X.env) :: starEach es X.env := by rfl) (hpl : (backTo pos (starEach es X.env)).any (·.1) = false := by rfl) :
    PN X g W (.Call (.Name x p) (e :: es) [] pos) (xCallO n F fl) := by
  refine pe_imp (pe_callS G hr hg hm hk hb (fun σ => passAt tk σ) ha hdb he hpl) ?_
  rintro σ H Q ⟨ρ, b, H0, G, F1⟩
  refine ta_call G F1 fun ds b1 H01 H1 vs t1 zo B1 il F2 => ?_
  obtain ⟨hz, F3⟩ := fin_gate F2
  refine ⟨by rw [← il.length]; exact hz, g.bx, g.k.z, ds, b1, H01, t1.sub, hK ▸ zo, hK ▸ B1, hK ▸ il, ?_⟩
  rw [hK]
  refine post_own (F3.mono fun xs b2 H0' H' t B k l us hn h0 hl il => k l us ?_ h0 hl il)
  cases q : H l with
  | none => rfl
  | some u => exact absurd hn (t1.there l (by rw [q]; simp))
theorem noX_fin {α : Type} {σ : L2.St} {H0 H : Hp} {r : Res α} {k : α → Bx → Hp → Hp → Prop} (h : Fin g W σ H0 H (noX r) k) : Fin g W0 σ H0 H r k := by
  cases r with
  | ok a b => exact h
  | exc x b => exact h.elim
  | bad => exact h
/-- o.m(..) of an instance that stays as it is; nothing is raised -/
def xMeth (C : Addr) (m : Str) (n : Nat) (F : FD) (f : Fx D) (fl : Fx (List D)) : Fx D := fun ρ b => (f ρ b).bind fun d b1 => match d with
  | .ins C' ns ds => if C' = C ∧ ns.contains m = false then (fl ρ b1).bind fun es b2 => gate n (.ins C' ns ds :: es) (noX (valO (F (.ins C' ns ds :: es) b2))) else .bad
  | _ => .bad
theorem lookup_zip_none {m : Str} : ∀ {ns : List Str} {vs : List V}, ns.contains m = false → (ns.zip vs).lookup m = none
  | [], _, _ => rfl
  | _ :: _, [], _ => rfl
  | x :: ns, v :: vs, h => by
    simp only [List.contains_cons, Bool.or_eq_false_iff] at h
    simp only [List.zip_cons_cons, List.lookup, h.1]
    exact lookup_zip_none h.2
variable {C : Addr} {m : Str} {pl : Sem Bool}
theorem px_meth0 (ho : PX X g W o f) (c : Cls X.K C) (hm : Meth X.K C m ff) (G : FnOk X.prog X.w X.K X.mg X.base (L2.CX X.prog X.w) kk ff fd ps (spD X.K n F)) (hr : Room kk X.A) (hK : X.K = g.k.K) (hb : Binds X.K fd ps [])
    (ht : eval (.Call (.Attribute o m apos) [] [] pos) X.env = (do
      let u ← eval o X.env
      standAt apos.atName
      let (f, first) ← holding [u] (getMethod u m pl)
      callWith pos f first (backTo pos (starEach [] X.env)) (backToKw pos (keywordEach [] X.env))) := by rfl) : PX X g W (.Call (.Attribute o m apos) [] [] pos) (xMeth C m n F f xNil) := by
  refine pe_imp (pe_meth0 ho c hm G hr hb .nil passL ht) ?_
  rintro σ H Q ⟨ρ, b, H0, G, F1⟩
  refine ⟨ρ, b, H0, G, F1.bind.mono fun d b1 H01 H1 t1 B1 F2 v iv => ?_⟩
  cases iv with
  | @ins a dx C' ns us ds hH hn il =>
    dsimp only at F2
    split at F2
    · rename_i hc
      obtain ⟨rfl, hc⟩ := hc
      obtain ⟨hz, F3⟩ := fin_gate (show Fin g W σ H01 H1 (gate n _ (noX (valO (F _ b1)))) _ from F2)
      refine ⟨_, _, _, rfl, t1.sub _ _ hH, lookup_zip_none hc, ?_⟩
      refine ⟨hz, g.bx, g.k.z, [.ins C' ns ds], b1, H01, t1.sub, hK ▸ (G.step t1 B1).zok, hK ▸ B1, .cons ?_ .nil, ?_⟩
      · exact hK ▸ Is.ins hH hn il
      · rw [hK]
        exact (post_val (G.step t1 B1).zok B1 (noX_fin F3)).mono fun _ _ _ z => z
    · exact F2.elim
  | _ => exact F2.elim
theorem px_meth (ho : PX X g W o f) (c : Cls X.K C) (hm : Meth X.K C m ff) (G : FnOk X.prog X.w X.K X.mg X.base (L2.CX X.prog X.w) kk ff fd ps (spD X.K n F)) (hr : Room kk X.A) (hK : X.K = g.k.K) (hb : Binds X.K fd ps []) (ha : PL X g W (e :: es) fl)
    (hst : starEach (e :: es) X.env = (false, eval e X.env) :: starEach es X.env := by rfl) (hpl : (backTo pos (starEach es X.env)).any (·.1) = false := by rfl)
    (ht : eval (.Call (.Attribute o m apos) (e :: es) [] pos) X.env = (do
      let u ← eval o X.env
      standAt apos.atName
      let (f, first) ← holding [u] (getMethod u m pl)
      callWith pos f first (backTo pos (starEach (e :: es) X.env)) (backToKw pos (keywordEach [] X.env))) := by rfl) : PX X g W (.Call (.Attribute o m apos) (e :: es) [] pos) (xMeth C m n F f fl) := by
  refine pe_imp (pe_meth ho c hm G hr hb .nil passL ha hst hpl ht) ?_
  rintro σ H Q ⟨ρ, b, H0, G, F1⟩
  refine ⟨ρ, b, H0, G, F1.bind.mono fun d b1 H01 H1 t1 B1 F2 v iv => ?_⟩
  cases iv with
  | @ins a dx C' ns us ds hH hn il =>
    dsimp only at F2
    split at F2
    · rename_i hc
      obtain ⟨rfl, hc⟩ := hc
      refine ⟨_, _, _, rfl, t1.sub _ _ hH, lookup_zip_none hc, ?_⟩
      refine ta_call (G.step t1 B1) F2 fun es2 b2 H02 H2 vs t2 zo2 B2 il2 F3 => ?_
      obtain ⟨hz, F4⟩ := fin_gate F3
      refine ⟨?_, g.bx, g.k.z, .ins C' ns ds :: es2, b2, H02, t2.sub, hK ▸ zo2, hK ▸ B2, .cons ?_ ?_, ?_⟩
      rotate_left
      · exact hK ▸ (Is.ins hH hn il).mono t2.ext
      · rw [List.append_nil]; exact hK ▸ il2
      · rw [hK]
        exact (post_val zo2 B2 (noX_fin F4)).mono fun _ _ _ z => z
      · rw [List.append_nil, List.length_cons, ← il2.length]; exact hz
    · exact F2.elim
  | _ => exact F2.elim
/-- o.f of such an instance -/
def fldD : List Str → List D → Str → Option D
  | n :: ns, d :: ds, f => if f == n then some d else fldD ns ds f
  | _, _, _ => none
def xFld (C : Addr) (f : Str) (h : Fx D) : Fx D := fun ρ b => (h ρ b).bind fun d b1 => match d with
  | .ins C' ns ds => if C' = C then lift (fldD ns ds f) b1 else .bad
  | _ => .bad
theorem fldD_get {k : Kx} {H : Hp} : ∀ {ns : List Str} {ds : List D} {vs : List V} {f : Str} {d : D}, IsL k H ds vs → fldD ns ds f = some d → ∃ v, (ns.zip vs).lookup f = some v ∧ Is k H d v
  | [], _, _, _, _, _, h => by cases h
  | _ :: _, [], _, _, _, _, h => by cases h
  | n :: ns, c :: ds, _, f, d, .cons (v := v) (vs := vs) hi hl, h => by
    unfold fldD at h
    by_cases hf : (f == n) = true
    · rw [if_pos hf] at h
      cases h
      refine ⟨v, ?_, hi⟩
      simp only [List.zip_cons_cons, List.lookup, hf]
    · rw [if_neg hf] at h
      obtain ⟨u, h1, h2⟩ := fldD_get (ns := ns) hl h
      refine ⟨u, ?_, h2⟩
      have hf : (f == n) = false := by simpa using hf
      simp only [List.zip_cons_cons, List.lookup, hf]
      exact h1
theorem px_fld {fn : Str} (h : PX X g W e f) (hK : X.K = g.k.K) (c : Cls X.K C) (no : NoAttr X.K C fn) (hb : attributeBase e fn X.env (eval e X.env) = eval e X.env := by rfl) : PX X g W (.Attribute e fn pos) (xFld C fn f) := by
  refine pe_imp (pe_fld h hb) ?_
  rintro σ H Q ⟨ρ, b, H0, G, F1⟩
  refine ⟨ρ, b, H0, G, F1.bind.mono fun d b1 H01 H1 t1 B1 F2 v iv => ?_⟩
  cases iv with
  | ins hH hn il =>
    dsimp only at F2
    split at F2
    · rename_i hc
      subst hc
      rename_i _ _ ns us ds
      cases hf : fldD ns ds fn with
      | none => rw [hf] at F2; exact F2.elim
      | some c' =>
        rw [hf] at F2
        obtain ⟨u, h1, h2⟩ := fldD_get il hf
        exact ⟨_, _, _, _, u, rfl, t1.sub _ _ hH, c, no, h1, F2 H01 H1 (Tr.refl t1.sub) B1 u h2⟩
    · exact F2.elim
  | _ => exact F2.elim
/-- a built-in by its name -/
def xB (o : List D → Option D) (fl : Fx (List D)) : Fx D := fun ρ b => (fl ρ b).bind fun ds b1 => lift (o ds) b1
theorem tx_cb {r : List V → Hp → VK → Prop} {o : List D → Option D} (hr : ClD g.k r o) {σ : L2.St} {H : Hp} {Q : VK} (z : TX g W (xB o fl) σ H Q) : tCB r (TA' g W fl) σ H Q := by
  obtain ⟨ρ, b, H0, G, F1⟩ := z
  refine ta_call G F1 fun ds b1 H01 H1 vs t1 zo B1 il F2 => ?_
  cases ho : o ds with
  | none => rw [ho] at F2; exact F2.elim
  | some w =>
    rw [ho] at F2
    exact hr H01 H1 ds w vs t1.sub zo il ho Q fun v H0' H' t iz => F2 H0' H' t.weak (B1.keep t) v iz
theorem px_callB {id : String} {r : List V → Hp → VK → Prop} {oo : List D → Option D} (hc : CallR X (.builtin id) r) (hr : ClD g.k r oo) (hg : Gl X x) (hm : X.mg x = none) (hv : bootBuiltins x = some (.builtin id)) (ha : PL X g W (e :: es) fl)
    (hdb : (x == ("__debug__" : Str)) = false := by decide) (hnm : x ≠ "__name__" := by decide) (he : starEach (e :: es) X.env = (false, eval e X.env) :: starEach es X.env := by rfl) (hpl : (backTo pos (starEach es X.env)).any (·.1) = false := by rfl) :
    PX X g W (.Call (.Name x p) (e :: es) [] pos) (xB oo fl) := pe_imp (pe_callB hc hg hm hv ha hnm hdb he hpl) fun _ _ _ => tx_cb hr
theorem px_callTy {id : String} {r : List V → Hp → VK → Prop} {oo : List D → Option D} (hc : CallR X (.type id) r) (hr : ClD g.k r oo) (hg : Gl X x) (hm : X.mg x = none) (hv : bootBuiltins x = some (.type id)) (ha : PL X g W (e :: es) fl)
    (hdb : (x == ("__debug__" : Str)) = false := by decide) (hnm : x ≠ "__name__" := by decide) (he : starEach (e :: es) X.env = (false, eval e X.env) :: starEach es X.env := by rfl) (hpl : (backTo pos (starEach es X.env)).any (·.1) = false := by rfl) :
    PX X g W (.Call (.Name x p) (e :: es) [] pos) (xB oo fl) := pe_imp (pe_callTy hc hg hm hv ha hnm hdb he hpl) fun _ _ _ => tx_cb hr
end
end Fw
set_option Elab.async false
set_option linter.all false
set_option maxRecDepth 100000
set_option maxHeartbeats 1000000
/-! Fw6: the operators and built-ins over data. -/
namespace Fw
open PySem PySem.Spec PyProof.Rows L2

def lim (n : Nat) {α : Type} (a : α) : Option α := if n ≤ 100000 then some a else none
theorem lim_some {n : Nat} {α : Type} {a b : α} (h : lim n a = some b) : n ≤ 100000 ∧ a = b := by
  unfold lim at h
  split at h
  · rename_i q; exact ⟨q, Option.some.inj h⟩
  · cases h

/-! ### the data functions -/
def addD : D → D → Option D
  | .int a, .int b => some (.int (a + b))
  | .str a, .str b => lim (a.length + b.length) (.str (a ++ b))
  | .lst _ a, .lst _ b => lim (a.length + b.length) (.lst false (a ++ b))
  | .tup a, .tup b => lim (a.length + b.length) (.tup (a ++ b))
  | _, _ => none
def subD : D → D → Option D
  | .int a, .int b => some (.int (a - b))
  | _, _ => none
def mulD : D → D → Option D
  | .int a, .int b => if -(2 ^ 64) < b ∧ b < 2 ^ 64 then some (.int (a * b)) else none
  | .lst _ a, .int b => if 0 ≤ b ∧ b ≤ 1000 then lim (a.length * b.toNat) (.lst false (List.replicate b.toNat a).flatten) else none
  | _, _ => none
def divD : D → D → Option D
  | .int a, .int b => if 0 < b ∧ b < 1073741824 then some (.int (a / b)) else none
  | _, _ => none
def modD : D → D → Option D
  | .int a, .int b => if 0 < b then some (.int (a % b)) else none
  | _, _ => none
def ltD : D → D → Option D
  | .int a, .int b => some (.bl (decide (a < b)))
  | _, _ => none
def leD : D → D → Option D
  | .int a, .int b => some (.bl (decide (a ≤ b)))
  | _, _ => none
def gtD : D → D → Option D
  | .int a, .int b => some (.bl (decide (b < a)))
  | _, _ => none
def geD : D → D → Option D
  | .int a, .int b => some (.bl (decide (b ≤ a)))
  | _, _ => none
def isND : D → D → Option D
  | x, .non => some (.bl (match x with | .non => true | _ => false))
  | _, _ => none
def notND : D → D → Option D
  | x, .non => some (.bl (match x with | .non => false | _ => true))
  | _, _ => none
def idxD : D → D → Option D
  | .lst _ xs, .int i => atI xs i
  | .tup xs, .int i => atI xs i
  | .str z, .int i => if z.length ≤ 100000 then (atI z.cps.toList i).map fun c => .str ⟨#[c]⟩ else none
  | _, _ => none
def negD : D → Option D
  | .int a => some (.int (-a))
  | _ => none

/-! ### data as PyData, for == -/
mutual
def toPy : D → Option PyData
  | .non => some .none
  | .bl b => some (.bool b)
  | .int i => some (.int i)
  | .str x => some (.str x)
  | .tup xs => (toPys xs).map .tuple
  | .lst _ xs => (toPys xs).map .list
  | .ins _ _ _ => none
  | .adr _ => none
  | .box => none
  | .sql _ => none
  | .slf _ => none
  | .mem _ => none
  | .dls => none
  | .dct _ _ => none
def toPys : List D → Option (List PyData)
  | [] => some []
  | d :: ds => (toPy d).bind fun x => (toPys ds).map fun xs => x :: xs
end
mutual
theorem dp_of {k : Kx} {H : Hp} : ∀ {d : D} {v : V} {p : PyData}, Is k H d v → toPy d = some p → Dp k.K H v p
  | _, _, _, .non, h => by cases h; exact .non
  | _, _, _, .bl b, h => by cases h; exact .bl b
  | _, _, _, .int i, h => by cases h; exact .int i
  | _, _, _, .str x, h => by cases h; exact .str x
  | _, _, _, .tup (ds := ds) ht hl, h => by
    have h : (toPys ds).map PyData.tuple = some _ := h
    cases hq : toPys ds with
    | none => rw [hq] at h; cases h
    | some ps => rw [hq] at h; cases h; exact .tup ht (dps_of hl hq)
  | _, _, _, .lst (ds := ds) ht _ hl, h => by
    have h : (toPys ds).map PyData.list = some _ := h
    cases hq : toPys ds with
    | none => rw [hq] at h; cases h
    | some ps => rw [hq] at h; cases h; exact .lst (.inl (.inl ht)) (dps_of hl hq)
  | _, _, _, .ins _ _ _, h => by cases h
  | _, _, _, .adr _, h => by cases h
  | _, _, _, .box _, h => by cases h
  | _, _, _, .sql _ _, h => by cases h
  | _, _, _, .slf _, h => by cases h
  | _, _, _, .mem _, h => by cases h
  | _, _, _, .dls _, h => by cases h
  | _, _, _, .dct _ _ _, h => by cases h
theorem dps_of {k : Kx} {H : Hp} : ∀ {ds : List D} {vs : List V} {ps : List PyData}, IsL k H ds vs → toPys ds = some ps → DpAll k.K H vs ps
  | _, _, _, .nil, h => by cases h; exact .nil
  | _, _, _, .cons (d := d) (ds := ds) hi hl, h => by
    have h : ((toPy d).bind fun x => (toPys ds).map fun xs => x :: xs) = some _ := h
    cases hq : toPy d with
    | none => rw [hq] at h; cases h
    | some p =>
      rw [hq] at h
      cases hr : toPys ds with
      | none => rw [hr] at h; cases h
      | some ps => rw [hr] at h; cases h; exact .cons (dp_of hi hq) (dps_of hl hr)
end
def eqD (neg : Bool) (x y : D) : Option D := match toPy x, toPy y with
  | some p, some q => if SeqAt.shaped p = true ∧ SeqAt.shaped q = true then some (.bl (neg != PyData.eqv p q)) else none
  | _, _ => none
def inD (neg : Bool) (x y : D) : Option D := match y with
  | .lst _ ys => (match toPy x, toPys ys with
    | some p, some qs => if SeqAt.shaped p = true ∧ SeqAt.shaped (.list qs) = true then some (.bl (neg != qs.any fun z => PyData.eqv z p)) else none
    | _, _ => none)
  | _ => none

section
variable {k : Kx} {X : Cx}
abbrev KX (k : Kx) (X : Cx) : Prop := X.K = k.K
/-! ### the operators' readings and their worth -/
def rAddU (K : PySem.W.Frag) : R2 := fun x y H Q => rI0 (fun i j => .int (i + j)) x y H Q ∨ (∃ i j, x = .str i ∧ y = .str j ∧ i.length + j.length ≤ sizeLine ∧ Q (.str (i ++ j)) H) ∨ rCat x y H Q ∨ rCatA K x y H Q
theorem op_addU : OpR X (binaryOp .Add) (rAddU X.K) := OpR.or op_add (OpR.or op_add_str (OpR.or op_cat op_catA))
theorem opd_add : OpD k (rAddU k.K) addD := by
  intro H0 H x y z vx vy e zo ix iy h Q q
  cases ix <;> cases iy <;> first | (cases h; done) | skip
  case int.int a b =>
    cases h
    exact .inl ⟨a, b, rfl, rfl, q _ H0 H (Tr.refl e) (.int _)⟩
  case str.str a b =>
    obtain ⟨h1, rfl⟩ := lim_some h
    exact .inr (.inl ⟨a, b, rfl, rfl, sz_of h1, q _ H0 H (Tr.refl e) (.str _)⟩)
  case tup.tup a vs ds h1 l1 b us es h2 l2 =>
    obtain ⟨hz, rfl⟩ := lim_some h
    refine .inr (.inr (.inr ⟨a, b, vs, us, rfl, rfl, same_t e h1, same_t e h2, by rw [← l1.length, ← l2.length]; exact sz_of hz, fun hn => ?_, fun _ hn => ?_, fun _ _ p hp => ?_⟩))
    · subst hn
      cases l1
      exact q _ H0 H (Tr.refl e) (.tup h2 l2)
    · subst hn
      cases l2
      rw [List.append_nil] at q
      exact q _ H0 H (Tr.refl e) (.tup h1 l1)
    · have ta := Tr.alloc (o := .tup (vs ++ us)) e hp
      exact q _ _ _ ta (.tup (.inl (.inl upd_same)) ((l1.app l2).mono ta.ext))
  case lst.lst a vs ds z1 h1 q1 l1 b us es z2 h2 q2 l2 =>
    obtain ⟨hz, rfl⟩ := lim_some h
    refine .inr (.inr (.inl ⟨a, b, vs, us, rfl, rfl, e _ _ h1, e _ _ h2, by rw [← l1.length, ← l2.length]; exact sz_of hz, fun p hp => ?_⟩))
    have ta := Tr.alloc (o := .lst (vs ++ us)) e hp
    exact q _ _ _ ta (.lst upd_same (zo.new hp) ((l1.app l2).mono ta.ext))
theorem opd_sub : OpD k (rI0 fun i j => .int (i - j)) subD := by
  intro H0 H x y z vx vy e zo ix iy h Q q
  cases ix <;> cases iy <;> first | (cases h; done) | skip
  cases h
  exact ⟨_, _, rfl, rfl, q _ H0 H (Tr.refl e) (.int _)⟩
def rMulU : R2 := fun x y H Q => rI CMul (fun i j => .int (i * j)) x y H Q ∨ rRep x y H Q
theorem op_mulU : OpR X (binaryOp .Mult) rMulU := OpR.or op_mul op_rep
theorem IsL.flat {H : Hp} {ds : List D} {vs : List V} (h : IsL k H ds vs) : ∀ n : Nat, IsL k H (List.replicate n ds).flatten (List.replicate n vs).flatten
  | 0 => .nil
  | n + 1 => by
    rw [List.replicate_succ, List.replicate_succ, List.flatten_cons, List.flatten_cons]
    exact h.app (IsL.flat h n)
theorem opd_mul : OpD k rMulU mulD := by
  intro H0 H x y z vx vy e zo ix iy h Q q
  cases ix <;> cases iy <;> first | (cases h; done) | skip
  case int.int a b =>
    have h : (if -(2 ^ 64) < b ∧ b < 2 ^ 64 then some (D.int (a * b)) else none) = some z := h
    split at h
    · rename_i hb
      cases h
      exact .inl ⟨a, b, rfl, rfl, .inr hb, q _ H0 H (Tr.refl e) (.int _)⟩
    · cases h
  case lst.int a vs ds z1 h1 q1 l1 b =>
    have h : (if 0 ≤ b ∧ b ≤ 1000 then lim (ds.length * b.toNat) (D.lst false (List.replicate b.toNat ds).flatten) else none) = some z := h
    split at h
    · rename_i hb
      obtain ⟨hz, rfl⟩ := lim_some h
      refine .inr ⟨a, b, vs, rfl, rfl, e _ _ h1, by omega, by omega, by rw [← l1.length]; exact sz_of hz, fun p hp => ?_⟩
      have ta := Tr.alloc (o := .lst (List.replicate b.toNat vs).flatten) e hp
      exact q _ _ _ ta (.lst upd_same (zo.new hp) ((l1.flat _).mono ta.ext))
    · cases h
theorem opd_div : OpD k (rI CDivN fun i j => .int (i.fdiv j)) divD := by
  intro H0 H x y z vx vy e zo ix iy h Q q
  cases ix <;> cases iy <;> first | (cases h; done) | skip
  rename_i a b
  have h : (if 0 < b ∧ b < 1073741824 then some (D.int (a / b)) else none) = some z := h
  split at h
  · rename_i hb
    cases h
    refine ⟨a, b, rfl, rfl, ⟨by omega, by omega⟩, ?_⟩
    show Q (.int (a.fdiv b)) H
    rw [Int.fdiv_eq_ediv_of_nonneg a (show 0 ≤ b by omega)]
    exact q _ H0 H (Tr.refl e) (.int _)
  · cases h
theorem opd_mod : OpD k (rI (fun _ j => j ≠ 0) fun i j => .int (i.fmod j)) modD := by
  intro H0 H x y z vx vy e zo ix iy h Q q
  cases ix <;> cases iy <;> first | (cases h; done) | skip
  rename_i a b
  have h : (if 0 < b then some (D.int (a % b)) else none) = some z := h
  split at h
  · rename_i hb
    cases h
    refine ⟨a, b, rfl, rfl, by omega, ?_⟩
    show Q (.int (a.fmod b)) H
    rw [Int.fmod_eq_emod_of_nonneg a (show 0 ≤ b by omega)]
    exact q _ H0 H (Tr.refl e) (.int _)
  · cases h
theorem opd_lt : OpD k (rI0 fun i j => .bl (decide (i < j))) ltD := by
  intro H0 H x y z vx vy e zo ix iy h Q q
  cases ix <;> cases iy <;> first | (cases h; done) | skip
  cases h; exact ⟨_, _, rfl, rfl, q _ H0 H (Tr.refl e) (.bl _)⟩
theorem opd_le : OpD k (rI0 fun i j => .bl (decide (i ≤ j))) leD := by
  intro H0 H x y z vx vy e zo ix iy h Q q
  cases ix <;> cases iy <;> first | (cases h; done) | skip
  cases h; exact ⟨_, _, rfl, rfl, q _ H0 H (Tr.refl e) (.bl _)⟩
theorem opd_gt : OpD k (rI0 fun i j => .bl (decide (j < i))) gtD := by
  intro H0 H x y z vx vy e zo ix iy h Q q
  cases ix <;> cases iy <;> first | (cases h; done) | skip
  cases h; exact ⟨_, _, rfl, rfl, q _ H0 H (Tr.refl e) (.bl _)⟩
theorem opd_ge : OpD k (rI0 fun i j => .bl (decide (j ≤ i))) geD := by
  intro H0 H x y z vx vy e zo ix iy h Q q
  cases ix <;> cases iy <;> first | (cases h; done) | skip
  cases h; exact ⟨_, _, rfl, rfl, q _ H0 H (Tr.refl e) (.bl _)⟩
theorem lt_bl : ∀ x y z, ltD x y = some z → ∃ k, z = .bl k := by
  intro x y z h; unfold ltD at h; split at h <;> cases h; exact ⟨_, rfl⟩
theorem le_bl : ∀ x y z, leD x y = some z → ∃ k, z = .bl k := by
  intro x y z h; unfold leD at h; split at h <;> cases h; exact ⟨_, rfl⟩
theorem opd_isN : OpD k (fun x y H Q => y = .non ∧ Q (.bl (decide (x = .non))) H) isND := by
  intro H0 H x y z vx vy e zo ix iy h Q q
  cases iy with
  | non =>
    refine ⟨rfl, ?_⟩
    cases ix <;> (cases h; refine q _ H0 H (Tr.refl e) ?_; exact .bl _)
  | _ => cases ix <;> cases h
theorem opd_notN : OpD k (fun x y H Q => y = .non ∧ Q (.bl (!decide (x = .non))) H) notND := by
  intro H0 H x y z vx vy e zo ix iy h Q q
  cases iy with
  | non =>
    refine ⟨rfl, ?_⟩
    cases ix <;> (cases h; refine q _ H0 H (Tr.refl e) ?_; exact .bl _)
  | _ => cases ix <;> cases h
theorem atI_is {H : Hp} {ds : List D} {vs : List V} {i : Int} {d : D} (l : IsL k H ds vs) (h : atI ds i = some d) : ∃ v, atI vs i = some v ∧ Is k H d v := by
  unfold atI at h ⊢
  rw [l.length] at h
  cases hx : ixN vs.length i with
  | none => rw [hx] at h; cases h
  | some j =>
    rw [hx] at h
    obtain ⟨v, hv, iv⟩ := l.get (show ds[j]? = some d from h)
    exact ⟨v, hv, iv⟩
theorem opd_idx : OpD k (rIx k.K) idxD := by
  intro H0 H x y z vx vy e zo ix iy h Q q
  cases ix <;> cases iy <;> first | (cases h; done) | skip
  case tup.int a vs ds h1 l1 i =>
    obtain ⟨v, hv, iv⟩ := atI_is l1 (show atI ds i = some z from h)
    exact .inr (.inl ⟨a, vs, i, v, rfl, rfl, same_t e h1, hv, q _ H0 H (Tr.refl e) iv⟩)
  case lst.int a vs ds z1 h1 q1 l1 i =>
    obtain ⟨v, hv, iv⟩ := atI_is l1 (show atI ds i = some z from h)
    exact .inl ⟨a, vs, i, v, rfl, rfl, .inl (.inl (e _ _ h1)), hv, q _ H0 H (Tr.refl e) iv⟩
  case str.int x i =>
    have h : (if x.length ≤ 100000 then (atI x.cps.toList i).map fun c => D.str ⟨#[c]⟩ else none) = some z := h
    split at h
    · rename_i hz
      cases hc : atI x.cps.toList i with
      | none => rw [hc] at h; cases h
      | some c =>
        rw [hc] at h
        cases h
        exact .inr (.inr ⟨x, i, c, rfl, rfl, sz_of hz, hc, q _ H0 H (Tr.refl e) (.str _)⟩)
    · cases h
theorem und_neg : UnD k (rU fun i => .int (-i)) negD := by
  intro H0 H x z vx e zo ix h Q q
  cases ix <;> first | (cases h; done) | skip
  cases h; exact ⟨_, rfl, q _ H0 H (Tr.refl e) (.int _)⟩
theorem opd_eq : OpD k (rEqD k.K) (eqD false) := by
  intro H0 H x y z vx vy e zo ix iy h Q q
  unfold eqD at h
  split at h
  · rename_i p r hp hr
    split at h
    · rename_i hs
      cases h
      refine ⟨p, r, dp_of (ix.mono e) hp, dp_of (iy.mono e) hr, hs.1, hs.2, ?_⟩
      exact q _ H0 H (Tr.refl e) (by rw [Bool.false_bne]; exact .bl _)
    · cases h
  · cases h
theorem opd_ne : OpD k (rNeD k.K) (eqD true) := by
  intro H0 H x y z vx vy e zo ix iy h Q q
  unfold eqD at h
  split at h
  · rename_i p r hp hr
    split at h
    · rename_i hs
      cases h
      refine ⟨p, r, dp_of (ix.mono e) hp, dp_of (iy.mono e) hr, hs.1, hs.2, ?_⟩
      exact q _ H0 H (Tr.refl e) (by rw [Bool.true_bne]; exact .bl _)
    · cases h
  · cases h
end
end Fw
set_option Elab.async false
set_option linter.all false
set_option maxRecDepth 100000
set_option maxHeartbeats 1000000
/-! Fw7: own lists, slices, built-ins by name, constants of the module. -/
namespace Fw
open PySem PySem.Spec PyProof.Rows L2

/-- a name's datum, own or not -/
def slD : Option Sl → Option D
  | some (.val d) => some d
  | some (.own ds) => some (.lst false ds)
  | _ => none
def xIxV (i : Nat) (f : Fx D) : Fx D := fun ρ b => match slD ρ[i]? with
  | some x => (f ρ b).bind fun y b1 => lift (idxD x y) b1
  | none => .bad
def lenD : D → Option D
  | .lst _ xs => some (.int xs.length)
  | .sql xs => some (.int xs.length)
  | .tup xs => some (.int xs.length)
  | .str x => if x.length ≤ 100000 then some (.int x.length) else none
  | _ => none
def xLenV (i : Nat) : Fx D := fun ρ b => lift ((slD ρ[i]?).bind lenD) b
def kApp (i : Nat) (f : Fx D) : Fs := fun ρ b => match ρ[i]? with
  | some (.own ds) => (f ρ b).out fun d b1 => if ds.length < 100000 then .nx (ρ.set i (.own (ds ++ [d]))) b1 else .bad
  | _ => .bad
def setD (ρ : En) (i : Nat) (ds : List D) (d j : D) (b : Bx) : Out := match j with
  | .int z => (match ixN ds.length z with
    | some n => .nx (ρ.set i (.own (ds.set n d))) b
    | none => .bad)
  | _ => .bad
def kSetI (i : Nat) (fe fi : Fx D) : Fs := fun ρ b => match ρ[i]? with
  | some (.own ds) => (fe ρ b).out fun d b1 => (fi ρ b1).out fun j b2 => setD ρ i ds d j b2
  | _ => .bad

section
variable {X : Cx} {g : Cfg} {W : WX} {a c e : Expr} {es : List Expr} {f h : Fx D} {pos p p2 apos : Pos} {x : Str} {fl : Fx (List D)}
/-- what a name's slot holds, as something to read -/
theorem slot_read {ρ : En} {b : Bx} {σ : L2.St} {H H0 : Hp} {i : Nat} {d : D} (G : Good g ρ b σ H H0) (h : slD ρ[i]? = some d) : ∃ v HR, σ[i]? = some (some v) ∧ Same H0 HR ∧ Same HR H ∧ Is g.k HR d v ∧
    (∀ z ds, d = .lst z ds → ∃ l vs, v = .ref l ∧ H l = some (.lst vs) ∧ IsL g.k H0 ds vs) := by
  cases hs : ρ[i]? with
  | none => rw [hs] at h; cases h
  | some s =>
    rw [hs] at h
    cases s with
    | no => cases h
    | val d' =>
      cases h
      obtain ⟨v, e1, iv⟩ := G.val hs
      refine ⟨v, H0, e1, Same.refl _, G.sub, iv, ?_⟩
      rintro z ds rfl
      cases iv with
      | lst hl _ il => exact ⟨_, _, rfl, G.sub _ _ hl, il⟩
    | own ds =>
      cases h
      obtain ⟨l, vs, e1, h0, hl, il⟩ := G.own hs
      have e0 : Same H0 (upd H0 l (.lst vs)) := fun a u e => by rw [upd_ne (ne_of_none e h0)]; exact e
      refine ⟨.ref l, upd H0 l (.lst vs), e1, e0, fun a u e => ?_, .lst upd_same (G.zin.new (G.mine i l ⟨⟨ds, hs⟩, e1⟩)) (il.mono e0), ?_⟩
      · by_cases ha : a = l
        · subst ha; rw [upd_same] at e; rw [hl]; exact e
        · rw [upd_ne ha] at e; exact G.sub a u e
      · rintro z es h
        cases h
        exact ⟨l, vs, rfl, hl, il⟩
theorem px_ixV (i : Nat) (hK : X.K = g.k.K) (hc : PX X g W c f) (hN : X.N[i]? = some x := by rfl) (hv : Vis X.env.scope x := by first | exact Or.inl rfl | exact Or.inr (Or.inl rfl) | exact Or.inr (Or.inr rfl)) (hd : (x == ("__debug__" : Str)) = false := by decide)
    (hcd : (x == ("__classdict__" : Str)) = false := by decide) (hs : PlainIx c := by exact fun _ _ => rfl) : PX X g W (.Subscript (.Name x p) c pos) (xIxV i f) := by
  refine pe_imp (pe_ix ix_seq (pe_var hN hv hd hcd) hc hs) ?_
  rintro σ H Q ⟨ρ, b, H0, G, F⟩
  unfold xIxV at F
  cases hq : slD ρ[i]? with
  | none => simp only [hq] at F; exact F.elim
  | some d =>
    simp only [hq] at F
    obtain ⟨v, _, e1, _⟩ := slot_read G hq
    refine ⟨v, e1, ρ, b, H0, G, F.bind.mono fun y b1 H01 H1 t1 B1 F1 vy iy => ?_⟩
    have G1 := G.step t1 B1
    obtain ⟨v', HR, e2, s1, s2, iv, hl⟩ := slot_read G1 hq
    rw [e1] at e2; cases e2
    cases hz : idxD d y with
    | none => rw [hz] at F1; exact F1.elim
    | some z =>
      rw [hz] at F1
      rw [hK]
      cases d with
      | lst z1 ds =>
        obtain ⟨l, vs, rfl, hH, il⟩ := hl z1 ds rfl
        cases iy <;> first | (cases hz; done) | skip
        rename_i j
        obtain ⟨u, hu, iu⟩ := atI_is il (show atI ds j = some z from hz)
        exact .inl ⟨l, vs, j, u, rfl, rfl, .inl (.inl hH), hu, F1 H01 H1 (Tr.refl G1.sub) B1 _ iu⟩
      | tup ds =>
        have iv0 : Is g.k H01 (.tup ds) v := by
          cases hs : ρ[i]? with
          | none => rw [hs] at hq; cases hq
          | some s =>
            rw [hs] at hq
            cases s with
            | no => cases hq
            | own _ => cases hq
            | val d' => cases hq; obtain ⟨v', e3, iv'⟩ := G1.val hs; rw [e1] at e3; cases e3; exact iv'
        exact opd_idx H01 H1 _ _ _ _ _ G1.sub G1.zok iv0 iy hz Q fun v H0' H' t iz => F1 H0' H' t.weak (B1.keep t) v iz
      | str ds =>
        cases iv
        exact opd_idx H01 H1 (.str ds) y z (.str ds) vy G1.sub G1.zok (.str _) iy hz Q fun v H0' H' t iz => F1 H0' H' t.weak (B1.keep t) v iz
      | _ => cases hz
/-- x.append(e), x an own list -/
theorem p1_app (i : Nat) (ha : PX X g W e f) (hN : X.N[i]? = some x := by rfl) (hv : Vis X.env.scope x := by first | exact Or.inl rfl | exact Or.inr (Or.inl rfl) | exact Or.inr (Or.inr rfl)) (hd : (x == ("__debug__" : Str)) = false := by decide)
    (hcd : (x == ("__classdict__" : Str)) = false := by decide)
    (hbase : attributeBase (.Name x p) "append" X.env (eval (.Name x p) X.env) = eval (.Name x p) X.env := by rfl)
    (hfew : ((backTo p2 (starEach [e] X.env)).all (fun x => !x.1) && (backToKw p2 (keywordEach [] X.env)).all (fun x => x.1.isSome) && decide (([e] : List Expr).length + ([] : List Keyword).length + (if ([] : List Keyword).isEmpty then 0 else 1) < 30)) = true := by rfl)
    (hline : (apos.endLine == p2.line) = true := by rfl) (hs : starEach [e] X.env = (false, eval e X.env) :: starEach [] X.env := by rfl) (hplain : (backTo p2 (starEach [] X.env)).any (·.1) = false := by rfl)
    (hsw : swapsWith (.Call (.Attribute (.Name x p) "append" apos) [e] [] p2) none pos.line X.env = pure false := by rfl) :
    P1 X g W (.Expr (.Call (.Attribute (.Name x p) "append" apos) [e] [] p2) pos) (kApp i f) := by
  refine ps_imp (ps_expr (pe_bm PySem.F.plainAttrs_list PySem.F.slot_list_append PySem.F.type_list_append mt_append (pe_var hN hv hd hcd) (pa_cons ha pa_nil hs) hbase hfew hline hs hplain) hsw) ?_
  rintro Dd σ H ⟨ρ, b, H0, G, F⟩
  unfold kApp at F
  split at F
  · rename_i ds hi
    obtain ⟨l, vs0, e1, h0, hl0, il0⟩ := G.own hi
    refine ⟨.ref l, e1, .inl ⟨rfl, vs0, .inl (.inl hl0)⟩, ρ, b, H0, G, (fin_out G F).mono fun d b1 H01 H1 t1 B1 F1 v iv => ?_⟩
    have G1 := G.step t1 B1
    obtain ⟨l', vs, e2, h1, hl, il⟩ := G1.own hi
    rw [e1] at e2; cases e2
    split at F1
    · rename_i hz
      refine ⟨l, vs, v, rfl, rfl, hl, by rw [← il.length]; exact Nat.lt_of_lt_of_le hz (by decide), F1 _ _ _ (G1.upd hi e1 (il.app (.cons iv .nil))) (Same.refl _)⟩
    · exact F1.elim
  · exact F.elim
/-- x[j] = e, x an own list -/
theorem p1_setI (i : Nat) (he : PX X g W e f) (hj : PX X g W c h) (hN : X.N[i]? = some x := by rfl) (hv : Vis X.env.scope x := by first | exact Or.inl rfl | exact Or.inr (Or.inl rfl) | exact Or.inr (Or.inr rfl)) (hd : (x == ("__debug__" : Str)) = false := by decide)
    (hcd : (x == ("__classdict__" : Str)) = false := by decide) (hs : swapsWithSole [.Subscript (.Name x p) c p2] e pos.line X.env = pure false := by rfl) (hw : swappedStores [.Subscript (.Name x p) c p2] e X.env = pure none := by rfl)
    (h1 : (assignEach [.Subscript (.Name x p) c p2] X.env).map (·.2) = [assign (.Subscript (.Name x p) c p2) X.env] := by rfl)
    (hA : ∀ v, assign (.Subscript (.Name x p) c p2) X.env v = (do
      let ou ← holding [v] (eval (.Name x p) X.env)
      let iw ← holding [v, ou] (eval c X.env)
      standAt p2
      holding [v, ou, iw] (setItem ou iw v)
      release [v, ou, iw] []) := by intro _; rfl) : P1 X g W (.Assign [.Subscript (.Name x p) c p2] e pos) (kSetI i f h) := by
  refine ps_imp (ps_asg he (pg_sub (pe_var hN hv hd hcd) hj set_list hA) hs hw h1) ?_
  rintro Dd σ H ⟨ρ, b, H0, G, F⟩
  unfold kSetI at F
  split at F
  · rename_i ds hi
    refine ⟨ρ, b, H0, G, (fin_out G F).mono fun d b1 H01 H1 t1 B1 F1 v iv => ?_⟩
    have G1 := G.step t1 B1
    obtain ⟨l, vs0, e1, h0, hl0, il0⟩ := G1.own hi
    refine ⟨.ref l, e1, ρ, b1, H01, G1, (fin_out G1 F1).mono fun j b2 H02 H2 t2 B2 F2 u iu => ?_⟩
    have G2 := G1.step t2 B2
    obtain ⟨l', vs, e2, h2, hl, il⟩ := G2.own hi
    rw [e1] at e2; cases e2
    cases iu with
    | int z =>
      have F2 : FinS g W H02 (match ixN ds.length z with | some n => .nx (ρ.set i (.own (ds.set n d))) b2 | none => .bad) Dd := F2
      cases hx : ixN ds.length z with
      | none => rw [hx] at F2; exact F2.elim
      | some n =>
        rw [hx] at F2
        exact ⟨l, vs, z, n, rfl, rfl, hl, by rw [← il.length]; exact hx, F2 _ _ _ (G2.upd hi e1 (il.set (iv.mono t2.ext))) (Same.refl _)⟩
    | _ => exact F2.elim
  · exact F.elim
theorem lenV_of {k : Kx} {H : Hp} {d z : D} {v : V} (iv : Is k H d v) (h : lenD d = some z) : ∃ n : Nat, z = .int n ∧ LenV k.K v H n := by
  cases iv <;> first | (cases h; done) | skip
  case str x =>
    have h : (if x.length ≤ 100000 then some (D.int x.length) else none) = some z := h
    split at h
    · rename_i hz; cases h; exact ⟨_, rfl, sz_of hz, rfl⟩
    · cases h
  case tup a vs ds h1 l1 => cases h; exact ⟨_, rfl, .inr ⟨vs, h1, l1.length⟩⟩
  case sql a vs ds h1 l1 => cases h; exact ⟨_, rfl, .inl ⟨vs, h1, l1.length⟩⟩
  case lst a vs ds z1 h1 q1 l1 => cases h; exact ⟨_, rfl, .inl ⟨vs, .inl (.inl h1), l1.length⟩⟩
theorem lenV_mono {K : PySem.W.Frag} {H H' : Hp} {v : V} {n : Nat} (h : LenV K v H n) (e : Same H H') : LenV K v H' n := by
  cases v with
  | ref p =>
    rcases h with ⟨xs, h1, h2⟩ | ⟨xs, h1, h2⟩
    · exact .inl ⟨xs, e.seq h1, h2⟩
    · exact .inr ⟨xs, same_t e h1, h2⟩
  | str y => exact h
  | byt y => exact h
  | _ => exact h.elim
/-- len(x) of a name -/
theorem px_lenV (i : Nat) (hK : X.K = g.k.K) (hg : Gl X "len") (hm : X.mg "len" = none) {p3 : Pos} (hN : X.N[i]? = some x := by rfl) (hv : Vis X.env.scope x := by first | exact Or.inl rfl | exact Or.inr (Or.inl rfl) | exact Or.inr (Or.inr rfl)) (hd : (x == ("__debug__" : Str)) = false := by decide)
    (hcd : (x == ("__classdict__" : Str)) = false := by decide) (he : starEach [.Name x p] X.env = (false, eval (.Name x p) X.env) :: starEach [] X.env := by rfl) (hpl : (backTo pos (starEach [] X.env)).any (·.1) = false := by rfl) :
    PX X g W (.Call (.Name "len" p3) [.Name x p] [] pos) (xLenV i) := by
  refine pe_imp (pe_callB call_len hg hm PySem.boot_len (pa_cons (pe_var hN hv hd hcd) pa_nil he) (by decide) (by decide) he hpl) ?_
  rintro σ H Q ⟨ρ, b, H0, G, F⟩
  unfold xLenV at F
  cases hq : slD ρ[i]? with
  | none => rw [hq] at F; exact F.elim
  | some d =>
    rw [hq] at F
    obtain ⟨v, HR, e1, s1, s2, iv, _⟩ := slot_read G hq
    cases hz : lenD d with
    | none => rw [show (some d).bind lenD = lenD d from rfl, hz] at F; exact F.elim
    | some z =>
      rw [show (some d).bind lenD = lenD d from rfl, hz] at F
      obtain ⟨n, rfl, hl⟩ := lenV_of iv hz
      refine ⟨v, e1, v, n, rfl, by rw [hK]; exact lenV_mono hl s2, F H0 H (Tr.refl G.sub) G.box _ (.int _)⟩
def len1 : List D → Option D
  | [d] => lenD d
  | _ => none
theorem cld_len {k : Kx} : ClD k (fun xs H Q => ∃ x n, xs = [x] ∧ LenV k.K x H n ∧ Q (.int n) H) len1 := by
  intro H0 H xs z vs e zo il h Q q
  cases il with
  | nil => cases h
  | cons i l =>
    cases l with
    | nil =>
      obtain ⟨n, rfl, hl⟩ := lenV_of i (show lenD _ = some z from h)
      exact ⟨_, n, rfl, lenV_mono hl e, q _ H0 H (Tr.refl e) (.int _)⟩
    | cons _ _ => cases h
/-! ### more built-ins -/
def intOf : D → Option Int
  | .int i => some i
  | _ => none
def intsOf : List D → Option (List Int)
  | [] => some []
  | d :: ds => (intOf d).bind fun i => (intsOf ds).map fun is => i :: is
theorem intsOf_is {k : Kx} {H : Hp} : ∀ {ds : List D} {vs : List V} {ns : List Int}, IsL k H ds vs → intsOf ds = some ns → vs = ns.map V.int
  | _, _, _, .nil, h => by cases h; rfl
  | _, _, ns, .cons (d := d) (ds := ds) hi hl, h => by
    have h : ((intOf d).bind fun i => (intsOf ds).map fun is => i :: is) = some _ := h
    cases hi with
    | int i =>
      have h : ((intsOf ds).map fun is => i :: is) = some ns := h
      cases hq : intsOf ds with
      | none => rw [hq] at h; cases h
      | some is => rw [hq] at h; cases h; rw [intsOf_is hl hq]; rfl
    | _ => cases h
theorem intsOf_map : ∀ ns : List Int, intsOf (ns.map D.int) = some ns
  | [] => rfl
  | n :: ns => by simp [intsOf, intOf, intsOf_map ns]
def leastI : List Int → Option Int
  | [] => none
  | n :: ns => some (ns.foldl min n)
def mostI : List Int → Option Int
  | [] => none
  | n :: ns => some (ns.foldl max n)
theorem foldl_min (ns : List Int) : ∀ n : Int, (ns.foldl min n) ∈ n :: ns ∧ ∀ y ∈ n :: ns, ns.foldl min n ≤ y := by
  induction ns with
  | nil => intro n; simp
  | cons a ns ih =>
    intro n
    obtain ⟨h1, h2⟩ := ih (min n a)
    show (ns.foldl min (min n a)) ∈ _ ∧ ∀ y ∈ _, ns.foldl min (min n a) ≤ y
    refine ⟨?_, fun y hy => ?_⟩
    · rcases List.mem_cons.mp h1 with h | h
      · rw [h]
        by_cases hna : n ≤ a
        · rw [Int.min_eq_left hna]; exact List.mem_cons_self
        · rw [Int.min_eq_right (by omega)]; exact List.mem_cons_of_mem _ List.mem_cons_self
      · exact List.mem_cons_of_mem _ (List.mem_cons_of_mem _ h)
    · have hm := h2 (min n a) List.mem_cons_self
      rcases List.mem_cons.mp hy with rfl | hy
      · exact Int.le_trans hm (Int.min_le_left _ _)
      · rcases List.mem_cons.mp hy with rfl | hy
        · exact Int.le_trans hm (Int.min_le_right _ _)
        · exact h2 y (List.mem_cons_of_mem _ hy)
theorem foldl_max (ns : List Int) : ∀ n : Int, (ns.foldl max n) ∈ n :: ns ∧ ∀ y ∈ n :: ns, y ≤ ns.foldl max n := by
  induction ns with
  | nil => intro n; simp
  | cons a ns ih =>
    intro n
    obtain ⟨h1, h2⟩ := ih (max n a)
    show (ns.foldl max (max n a)) ∈ _ ∧ ∀ y ∈ _, y ≤ ns.foldl max (max n a)
    refine ⟨?_, fun y hy => ?_⟩
    · rcases List.mem_cons.mp h1 with h | h
      · rw [h]
        by_cases hna : n ≤ a
        · rw [Int.max_eq_right hna]; exact List.mem_cons_of_mem _ List.mem_cons_self
        · rw [Int.max_eq_left (by omega)]; exact List.mem_cons_self
      · exact List.mem_cons_of_mem _ (List.mem_cons_of_mem _ h)
    · have hm := h2 (max n a) List.mem_cons_self
      rcases List.mem_cons.mp hy with rfl | hy
      · exact Int.le_trans (Int.le_max_left _ _) hm
      · rcases List.mem_cons.mp hy with rfl | hy
        · exact Int.le_trans (Int.le_max_right _ _) hm
        · exact h2 y (List.mem_cons_of_mem _ hy)
def min1 : List D → Option D
  | [.lst _ ds] => (intsOf ds).bind fun ns => (leastI ns).map .int
  | [.int i, .int j] => some (.int (if j < i then j else i))
  | _ => none
def max1 : List D → Option D
  | [.lst _ ds] => (intsOf ds).bind fun ns => (mostI ns).map .int
  | [.int i, .int j] => some (.int (if j > i then j else i))
  | _ => none
theorem call_minU (hc : X.calm = true) : CallR X (.builtin "min") (fun xs H Q => rMin X.K xs H Q ∨ ∃ i j, xs = [.int i, .int j] ∧ Q (.int (if j < i then j else i)) H) := CallR.or (cr_min hc) (call_min2 hc)
theorem call_maxU (hc : X.calm = true) : CallR X (.builtin "max") (fun xs H Q => rMax X.K xs H Q ∨ ∃ i j, xs = [.int i, .int j] ∧ Q (.int (if j > i then j else i)) H) := CallR.or (cr_max hc) (call_max2 hc)
theorem cld_min {k : Kx} : ClD k (fun xs H Q => rMin k.K xs H Q ∨ ∃ i j, xs = [.int i, .int j] ∧ Q (.int (if j < i then j else i)) H) min1 := by
  intro H0 H xs z vs e zo il h Q q
  unfold min1 at h
  split at h
  · rename_i ds
    cases il with
    | cons i l =>
      cases l
      cases i with
      | lst hl _ il =>
        cases hq : intsOf ds with
        | none => rw [hq] at h; cases h
        | some ns =>
          rw [hq] at h
          cases ns with
          | nil => cases h
          | cons n ns =>
            cases h
            obtain ⟨h1, h2⟩ := foldl_min ns n
            refine .inl ⟨_, n :: ns, rfl, ?_, by simp, fun m hm hle => ?_⟩
            · rw [← intsOf_is il hq]; exact .inl (.inl (e _ _ hl))
            · have : m = ns.foldl min n := Int.le_antisymm (hle _ h1) (h2 _ hm)
              rw [this]
              exact q _ H0 H (Tr.refl e) (.int _)
  · cases il with
    | cons i l =>
      cases l with
      | cons j l =>
        cases l; cases i; cases j; cases h
        exact .inr ⟨_, _, rfl, q _ H0 H (Tr.refl e) (.int _)⟩
  · cases h
theorem cld_max {k : Kx} : ClD k (fun xs H Q => rMax k.K xs H Q ∨ ∃ i j, xs = [.int i, .int j] ∧ Q (.int (if j > i then j else i)) H) max1 := by
  intro H0 H xs z vs e zo il h Q q
  unfold max1 at h
  split at h
  · rename_i ds
    cases il with
    | cons i l =>
      cases l
      cases i with
      | lst hl _ il =>
        cases hq : intsOf ds with
        | none => rw [hq] at h; cases h
        | some ns =>
          rw [hq] at h
          cases ns with
          | nil => cases h
          | cons n ns =>
            cases h
            obtain ⟨h1, h2⟩ := foldl_max ns n
            refine .inl ⟨_, n :: ns, rfl, ?_, by simp, fun m hm hle => ?_⟩
            · rw [← intsOf_is il hq]; exact .inl (.inl (e _ _ hl))
            · have : m = ns.foldl max n := Int.le_antisymm (h2 _ hm) (hle _ h1)
              rw [this]
              exact q _ H0 H (Tr.refl e) (.int _)
  · cases il with
    | cons i l =>
      cases l with
      | cons j l =>
        cases l; cases i; cases j; cases h
        exact .inr ⟨_, _, rfl, q _ H0 H (Tr.refl e) (.int _)⟩
  · cases h
def tup1 : List D → Option D
  | [.lst _ ds] => some (.tup ds)
  | [.tup ds] => some (.tup ds)
  | _ => none
theorem cld_tup {k : Kx} : ClD k (fun xs H Q => ∃ p ys, xs = [.ref p] ∧ ((SqL k.K H p ys ∧ ∀ l, H l = none → Q (.ref l) (upd H l (.tup ys))) ∨ (SqT k.K H p ys ∧ Q (.ref p) H))) tup1 := by
  intro H0 H xs z vs e zo il h Q q
  unfold tup1 at h
  split at h
  · cases h
    cases il with
    | cons i l =>
      cases l
      cases i with
      | @lst a us ds z1 hl _ il =>
        refine ⟨_, _, rfl, .inl ⟨.inl (.inl (e _ _ hl)), fun l hn => ?_⟩⟩
        have ta := Tr.alloc (o := .tup us) e hn
        exact q _ _ _ ta (.tup (.inl (.inl upd_same)) (il.mono ta.ext))
  · cases h
    cases il with
    | cons i l =>
      cases l
      cases i with
      | tup hl il => exact ⟨_, _, rfl, .inr ⟨same_t e hl, q _ H0 H (Tr.refl e) (.tup hl il)⟩⟩
  · cases h
/-- list(..): a new list -/
def lst1 : List D → Option (List D)
  | [.lst _ ds] => some ds
  | [.sql ds] => some ds
  | [.tup ds] => some ds
  | _ => none
theorem po_list (hK : X.K = g.k.K) (hg : Gl X "list") (hm : X.mg "list" = none) {p3 : Pos} (ha : PL X g W [e] fl) (he : starEach [e] X.env = (false, eval e X.env) :: starEach [] X.env := by rfl) (hpl : (backTo pos (starEach [] X.env)).any (·.1) = false := by rfl) :
    PN X g W (.Call (.Name "list" p3) [e] [] pos) (xSrc lst1 fl) := by
  refine pe_imp (pe_callTy call_list_of hg hm (by decide +kernel) ha (by decide) (by decide) he hpl) ?_
  rintro σ H Q ⟨ρ, b, H0, G, F⟩
  refine ta_call G F fun ds b1 H01 H1 vs t1 zo B1 il F2 => ?_
  cases ho : lst1 ds with
  | none => rw [ho] at F2; exact F2.elim
  | some es =>
    rw [ho] at F2
    have key : ∃ a us, vs = [.ref a] ∧ (SqL X.K H1 a us ∨ SqT X.K H1 a us) ∧ IsL g.k H01 es us := by
      unfold lst1 at ho
      split at ho
      · cases ho
        cases il with
        | cons i l => cases l; cases i with | lst hl _ il => exact ⟨_, _, rfl, .inl (.inl (.inl (t1.sub _ _ hl))), il⟩
      · cases ho
        cases il with
        | cons i l => cases l; cases i with | sql hl il => exact ⟨_, _, rfl, .inl (hK ▸ same_l t1.sub hl), il⟩
      · cases ho
        cases il with
        | cons i l => cases l; cases i with | tup hl il => exact ⟨_, _, rfl, .inr (hK ▸ same_t t1.sub hl), il⟩
      · cases ho
    obtain ⟨a, us, rfl, hs, iu⟩ := key
    refine ⟨a, us, rfl, hs, fun l hn => ?_⟩
    have ta := Tr.allocO (o := .lst us) t1.sub hn
    refine F2 _ _ ta.weak (B1.keep ta) l us ?_ (t1.sub.free hn) upd_same iu
    cases q : H l with
    | none => rfl
    | some o => exact absurd hn (t1.there l (by rw [q]; simp))
def int1 : List D → Option D
  | [.int i] => some (.int i)
  | [.bl c] => some (.int (if c then 1 else 0))
  | _ => none
theorem cld_int {k : Kx} : ClD k (fun xs H Q => (∃ i, xs = [.int i] ∧ Q (.int i) H) ∨ ∃ k, xs = [.bl k] ∧ Q (.int (if k then 1 else 0)) H) int1 := by
  intro H0 H xs z vs e zo il h Q q
  unfold int1 at h
  split at h
  · cases h
    cases il with
    | cons i l => cases l; cases i; exact .inl ⟨_, rfl, q _ H0 H (Tr.refl e) (.int _)⟩
  · cases h
    cases il with
    | cons i l => cases l; cases i; exact .inr ⟨_, rfl, q _ H0 H (Tr.refl e) (.int _)⟩
  · cases h
def sum1 : List D → Option D
  | [.lst _ ds] => (intsOf ds).map fun ns => .int ns.sum
  | _ => none
theorem cld_sum {k : Kx} : ClD k (rSum k.K) sum1 := by
  intro H0 H xs z vs e zo il h Q q
  unfold sum1 at h
  split at h
  · rename_i ds
    cases il with
    | cons i l =>
      cases l
      cases i with
      | lst hl _ il =>
        cases hq : intsOf ds with
        | none => rw [hq] at h; cases h
        | some ns =>
          rw [hq] at h
          cases h
          refine ⟨_, ns, rfl, ?_, q _ H0 H (Tr.refl e) (.int _)⟩
          rw [← intsOf_is il hq]; exact .inl (.inl (e _ _ hl))
  · cases h
/-- a constant of the module -/
theorem px_glob {u : Value} {d : D} {v : V} (hg : Gl X x) (hm : X.mg x = some u) (r : RelV v u) (i : ∀ k H, Is k H d v) (hd : (x == ("__debug__" : Str)) = false := by decide) : PX X g W (.Name x pos) (xC d) := px_of_c (pe_glob hg hm r hd) i

/-! ### slices -/
abbrev Fo := Fx (Option Int)
def PSl (X : Cx) (g : Cfg) (W : WX) (e : Option Expr) (f : Fo) : Prop := L2.PO X e fun σ H Q => ∃ ρ b H0, Good g ρ b σ H H0 ∧ Fin g W σ H0 H (f ρ b) fun o _ _ H' => Q o H'
theorem poo_imp {e : Option Expr} {t t' : TO} (h : L2.PO X e t) (q : ∀ σ H Q, t' σ H Q → t σ H Q) : L2.PO X e t' := ⟨fun pins s σ H Q I z => h.run pins s σ H Q I (q σ H Q z)⟩
def xNoP : Fo := fun _ b => .ok none b
def xSoP (f : Fx D) : Fo := fun ρ b => (f ρ b).bind fun d b1 => lift ((intOf d).map some) b1
theorem psl_none : PSl X g W none xNoP := by
  refine poo_imp po_none ?_
  rintro σ H Q ⟨ρ, b, H0, G, F⟩
  exact F H0 H (Tr.refl G.sub) G.box
theorem psl_some (h : PX X g W e f) : PSl X g W (some e) (xSoP f) := by
  refine poo_imp (po_some h) ?_
  rintro σ H Q ⟨ρ, b, H0, G, F⟩
  refine ⟨ρ, b, H0, G, F.bind.mono fun x b1 H01 H1 t1 B1 F1 v iv => ?_⟩
  cases iv with
  | int i => exact ⟨i, rfl, F1 _ _ (Tr.refl t1.sub) B1⟩
  | _ => exact F1.elim
def cutL {α : Type} (xs : List α) (lo hi : Option Int) : List α := (xs.drop (HT.sIx xs.length 0 lo)).take (HT.sIx xs.length xs.length hi - HT.sIx xs.length 0 lo)
def slcD (d : D) (lo hi : Option Int) : Option D := match d with
  | .lst _ xs => some (.lst false (cutL xs lo hi))
  | .tup xs => some (.tup (cutL xs lo hi))
  | _ => none
def xSlc (f : Fx D) (l h : Fo) : Fx D := fun ρ b => (f ρ b).bind fun d b1 => (l ρ b1).bind fun lo b2 => (h ρ b2).bind fun hi b3 => lift (slcD d lo hi) b3
theorem cutL_is {k : Kx} {H : Hp} {ds : List D} {vs : List V} {lo hi : Option Int} (h : IsL k H ds vs) : IsL k H (cutL ds lo hi) (cutV vs lo hi) := by
  unfold cutL cutV
  rw [← h.length]
  exact (h.drop _).take _
theorem px_slc {lo hi : Option Expr} {l h : Fo} (hK : X.K = g.k.K) (he : PX X g W e f) (hl : PSl X g W lo l) (hh : PSl X g W hi h) : PX X g W (.Subscript e (.Slice lo hi none p2) pos) (xSlc f l h) := by
  refine pe_imp (pe_slice (SlR.or sl_list sl_tupA) he hl hh) ?_
  rintro σ H Q ⟨ρ, b, H0, G, F⟩
  refine ⟨ρ, b, H0, G, F.bind.mono fun d b1 H01 H1 t1 B1 F1 v iv => ⟨ρ, b1, H01, G.step t1 B1, F1.bind.mono fun lo b2 H02 H2 t2 B2 F2 => ⟨ρ, b2, H02, (G.step t1 B1).step t2 B2, F2.bind.mono fun hi b3 H03 H3 t3 B3 F3 => ?_⟩⟩⟩
  have iv3 := (iv.mono t2.ext).mono t3.ext
  cases iv3 with
  | lst hL _ il =>
    rename_i a vs ds z1 q1
    refine .inl ⟨_, _, rfl, .inl (.inl (t3.sub _ _ hL)), fun p hp => ?_⟩
    have ta := Tr.alloc (o := .lst (cutV vs lo hi)) t3.sub hp
    exact F3 _ _ ta.weak (B3.keep ta) _ (.lst upd_same ((((G.step t1 B1).step t2 B2).step t3 B3).zok.new hp) ((cutL_is il).mono ta.ext))
  | tup hL il =>
    rename_i a vs ds
    refine .inr ⟨a, vs, rfl, hK ▸ same_t t3.sub hL, fun hw => ?_, fun hw p hp => ?_⟩
    · have e1 : cutL ds lo hi = ds := by
        unfold cutL
        rw [il.length, hw.1, hw.2, List.drop_zero, Nat.sub_zero, ← il.length, List.take_length]
      have F3 : Fin g W σ H03 H3 (.ok (D.tup (cutL ds lo hi)) b3) _ := F3
      rw [e1] at F3
      exact F3 _ _ (Tr.refl t3.sub) B3 _ (.tup hL il)
    · have ta := Tr.alloc (o := .tup (cutV vs lo hi)) t3.sub hp
      exact F3 _ _ ta.weak (B3.keep ta) _ (.tup (.inl (.inl upd_same)) ((cutL_is il).mono ta.ext))
  | _ => exact F3.elim
end
end Fw
set_option Elab.async false
set_option linter.all false
set_option maxRecDepth 100000
set_option maxHeartbeats 1000000
/-! Fw8: defs bundled: what a caller needs of a callee. -/
namespace Fw
open PySem PySem.Spec PyProof.Rows L2

abbrev mkG (K : PySem.W.Frag) (bx : Bk) (z : Addr → Bool) (Hs H0s : Hp) : Cfg := ⟨⟨K, bx, z⟩, Hs, H0s⟩
structure CalD (P : Program) (w : World) (K : PySem.W.Frag) (mg : Str → Option Value) (base : Heap) (k : Nat) (x : Str) (n : Nat) (F : FD) : Prop where
  ex : ∃ (f : Addr) (fd : FuncData) (ps : List Str), FnOk P w K mg base (L2.CX P w) k f fd ps (spD K n F) ∧ Binds K fd ps [] ∧ mg x = some (.ref f) ∧ PySem.W.keepIn K (.ref f) = true
structure MetD (P : Program) (w : World) (K : PySem.W.Frag) (mg : Str → Option Value) (base : Heap) (k : Nat) (C : Addr) (m : Str) (n : Nat) (F : FD) : Prop where
  ex : ∃ (f : Addr) (fd : FuncData) (ps : List Str), FnOk P w K mg base (L2.CX P w) k f fd ps (spD K n F) ∧ Binds K fd ps [] ∧ Meth K C m f
  cl : Cls K C
section
variable {P : Program} {w : World} {K : PySem.W.Frag} {mg : Str → Option Value} {base : Heap}
/-- a def by its body -/
theorem okB {x qual : Str} {st : Stmt} {f : Addr} {fd : FuncData} {N ps : List Str} {n : Nat} {k : Fs} (F : Fun K x qual st f fd) (S : FnScope N ps (defScope st))
    (hb : ∀ (bx : Bk) (z : Addr → Bool) (Hs H0s : Hp) (W : WX) (cdv : Value) (A : Around) (outer : List Env) (s : Shared) (H : Hp) (E : XK), Takes (cxOf (L2.CX P w) P w K mg base N qual (defScope st) f cdv A outer s H E) W →
      Room n (A.deeper (envOfC qual (defScope st) s.heap.objs.size f cdv)) → PB (cxOf (L2.CX P w) P w K mg base N qual (defScope st) f cdv A outer s H E) (mkG K bx z Hs H0s) W (defBody st) k) :
    FnOk P w K mg base (L2.CX P w) (n + 1) f fd ps (spD K ps.length (runD N.length k)) := by
  refine okD F S fun g W cdv A outer s H E hg tk hr => ?_
  obtain ⟨⟨K', bx, z⟩, Hs, H0s⟩ := g
  have hg : K' = K := hg
  subst hg
  exact hb bx z Hs H0s W cdv A outer s H E tk hr
theorem calD {x qual : Str} {st : Stmt} {f : Addr} {fd : FuncData} {N ps : List Str} {n : Nat} {k : Fs} (F : Fun K x qual st f fd) (S : FnScope N ps (defScope st)) (hm : mg x = some (.ref f)) (b : Binds K fd ps [])
    (hb : ∀ (bx : Bk) (z : Addr → Bool) (Hs H0s : Hp) (W : WX) (cdv : Value) (A : Around) (outer : List Env) (s : Shared) (H : Hp) (E : XK), Takes (cxOf (L2.CX P w) P w K mg base N qual (defScope st) f cdv A outer s H E) W →
      Room n (A.deeper (envOfC qual (defScope st) s.heap.objs.size f cdv)) → PB (cxOf (L2.CX P w) P w K mg base N qual (defScope st) f cdv A outer s H E) (mkG K bx z Hs H0s) W (defBody st) k) :
    CalD P w K mg base (n + 1) x ps.length (runD N.length k) := ⟨⟨f, fd, ps, okB F S hb, b, hm, F.kp⟩⟩
theorem metD {C : Addr} {x qual : Str} {st : Stmt} {f : Addr} {fd : FuncData} {N ps : List Str} {n : Nat} {k : Fs} (c : Cls K C) (F : Fun K x qual st f fd) (S : FnScope N ps (defScope st)) (hm : Meth K C x f) (b : Binds K fd ps [])
    (hb : ∀ (bx : Bk) (z : Addr → Bool) (Hs H0s : Hp) (W : WX) (cdv : Value) (A : Around) (outer : List Env) (s : Shared) (H : Hp) (E : XK), Takes (cxOf (L2.CX P w) P w K mg base N qual (defScope st) f cdv A outer s H E) W →
      Room n (A.deeper (envOfC qual (defScope st) s.heap.objs.size f cdv)) → PB (cxOf (L2.CX P w) P w K mg base N qual (defScope st) f cdv A outer s H E) (mkG K bx z Hs H0s) W (defBody st) k) :
    MetD P w K mg base (n + 1) C x ps.length (runD N.length k) := ⟨⟨f, fd, ps, okB F S hb, b, hm⟩, c⟩
theorem CalD.mono {j k : Nat} {x : Str} {n : Nat} {F : FD} (c : CalD P w K mg base j x n F) (h : j ≤ k) : CalD P w K mg base k x n F := by
  obtain ⟨f, fd, ps, F1, r⟩ := c.ex
  exact ⟨⟨f, fd, ps, F1.mono h, r⟩⟩
end
section
variable {X : Cx} {g : Cfg} {W : WX} {a c e o : Expr} {es : List Expr} {f h j : Fx D} {fl : Fx (List D)} {pos p apos : Pos} {x m : Str} {n k kk : Nat} {F : FD} {C : Addr}
theorem pxc (cl : CalD X.prog X.w X.K X.mg X.base k x n F) (hr : Room kk X.A) (hk : k ≤ kk) (hK : X.K = g.k.K) (tk : Takes X W) (ha : PL X g W (e :: es) fl) (hg : Gl X x := by rfl) (hdb : (x == ("__debug__" : Str)) = false := by decide)
    (he : starEach (e :: es) X.env = (false, eval e X.env) :: starEach es X.env := by rfl) (hpl : (backTo pos (starEach es X.env)).any (·.1) = false := by rfl) : PX X g W (.Call (.Name x p) (e :: es) [] pos) (xCall n F fl) := by
  obtain ⟨f, fd, ps, F1, b, hm, hk'⟩ := cl.ex
  exact px_call F1 (hr.mono hk) hK tk hg hm hk' b ha hdb he hpl
theorem poc (cl : CalD X.prog X.w X.K X.mg X.base k x n F) (hr : Room kk X.A) (hk : k ≤ kk) (hK : X.K = g.k.K) (tk : Takes X W) (ha : PL X g W (e :: es) fl) (hg : Gl X x := by rfl) (hdb : (x == ("__debug__" : Str)) = false := by decide)
    (he : starEach (e :: es) X.env = (false, eval e X.env) :: starEach es X.env := by rfl) (hpl : (backTo pos (starEach es X.env)).any (·.1) = false := by rfl) : PN X g W (.Call (.Name x p) (e :: es) [] pos) (xCallO n F fl) := by
  obtain ⟨f, fd, ps, F1, b, hm, hk'⟩ := cl.ex
  exact po_call F1 (hr.mono hk) hK tk hg hm hk' b ha hdb he hpl
theorem pxm0 {pl : Sem Bool} (cl : MetD X.prog X.w X.K X.mg X.base k C m n F) (hr : Room kk X.A) (hk : k ≤ kk) (hK : X.K = g.k.K) (ho : PX X g W o f)
    (ht : eval (.Call (.Attribute o m apos) [] [] pos) X.env = (do
      let u ← eval o X.env
      standAt apos.atName
      let (f, first) ← holding [u] (getMethod u m pl)
      callWith pos f first (backTo pos (starEach [] X.env)) (backToKw pos (keywordEach [] X.env))) := by rfl) : PX X g W (.Call (.Attribute o m apos) [] [] pos) (xMeth C m n F f xNil) := by
  obtain ⟨f, fd, ps, F1, b, hm⟩ := cl.ex
  exact px_meth0 ho cl.cl hm F1 (hr.mono hk) hK b ht
theorem pxm {pl : Sem Bool} (cl : MetD X.prog X.w X.K X.mg X.base k C m n F) (hr : Room kk X.A) (hk : k ≤ kk) (hK : X.K = g.k.K) (ho : PX X g W o f) (ha : PL X g W (e :: es) fl)
    (hst : starEach (e :: es) X.env = (false, eval e X.env) :: starEach es X.env := by rfl) (hpl : (backTo pos (starEach es X.env)).any (·.1) = false := by rfl)
    (ht : eval (.Call (.Attribute o m apos) (e :: es) [] pos) X.env = (do
      let u ← eval o X.env
      standAt apos.atName
      let (f, first) ← holding [u] (getMethod u m pl)
      callWith pos f first (backTo pos (starEach (e :: es) X.env)) (backToKw pos (keywordEach [] X.env))) := by rfl) : PX X g W (.Call (.Attribute o m apos) (e :: es) [] pos) (xMeth C m n F f fl) := by
  obtain ⟨f, fd, ps, F1, b, hm⟩ := cl.ex
  exact px_meth ho cl.cl hm F1 (hr.mono hk) hK b ha hst hpl ht

theorem tx_chain {r r' : R2} {oo oo' : D → D → Option D} (hr : OpD g.k r oo) (hr' : OpD g.k r' oo') (hb : ∀ x y z, oo x y = some z → ∃ k, z = .bl k) {σ : L2.St} {H : Hp} {Q : VK} (z : TX g W (xChain oo oo' f h j) σ H Q) :
    tChain r r' (TX g W f) (TX g W h) (TX g W j) σ H Q := by
  obtain ⟨ρ, b, H0, G, F⟩ := z
  refine ⟨ρ, b, H0, G, F.bind.mono fun x b1 H01 H1 t1 B1 F1 vx ix => ⟨ρ, b1, H01, G.step t1 B1, F1.bind.mono fun y b2 H02 H2 t2 B2 F2 vy iy => ?_⟩⟩
  cases ho : oo x y with
  | none => simp only [ho] at F2; exact F2.elim
  | some w =>
    obtain ⟨k, rfl⟩ := hb _ _ _ ho
    refine hr H02 H2 x y _ vx vy t2.sub ((G.step t1 B1).step t2 B2).zok (ix.mono t2.ext) iy ho _ fun v H03 H3 t3 iz => ?_
    cases iz
    refine ⟨k, rfl, ?_⟩
    have B3 := B2.keep t3
    simp only [ho] at F2
    cases k with
    | false =>
      refine iteF ?_
      exact F2 H03 H3 t3.weak B3 _ (.bl false)
    | true =>
      refine iteT ?_
      refine ⟨ρ, b2, H03, ((G.step t1 B1).step t2 B2).step t3.weak B3, ?_⟩
      have F3 : Fin g W σ H03 H3 ((j ρ b2).bind fun z b3 => lift (oo' y z) b3) (fun d _ H0' H' => ∀ v, Is g.k H0' d v → Q v H') := Fin.move F2 t3.weak
      refine F3.bind.mono fun z b3 H04 H4 t4 B4 F4 vz iz => ?_
      cases ho2 : oo' y z with
      | none => rw [ho2] at F4; exact F4.elim
      | some w2 =>
        rw [ho2] at F4
        exact hr' H04 H4 y z w2 vy vz t4.sub ((((G.step t1 B1).step t2 B2).step t3.weak B3).step t4 B4).zok ((iy.mono t3.ext).mono t4.ext) iz ho2 Q fun v H0' H' t iz => F4 H0' H' t.weak (B4.keep t) v iz
theorem pq_chain {op op' : CmpOp} {r r' : R2} {oo oo' : D → D → Option D} (ho : OpR X (compareOp op) r) (ho' : OpR X (compareOp op') r') (hr : OpD g.k r oo) (hr' : OpD g.k r' oo') (hb : ∀ x y z, oo x y = some z → ∃ k, z = .bl k) (ha : PX X g W a f) (hc : PX X g W c h) (he : PX X g W e j)
    (hm : lastMarks [op, op'] [c, e] = false := by with_unfolding_all rfl) : PQ X g W (.Compare a [op, op'] [c, e] pos) (xT (xChain oo oo' f h j)) :=
  pt_imp (pt_chain ho ho' ha hc he (hm := hm)) fun _ _ _ => tt_test fun _ _ _ => tx_chain hr hr' hb
theorem px_chain' {op op' : CmpOp} {r r' : R2} {oo oo' : D → D → Option D} (ho : OpR X (compareOp op) r) (ho' : OpR X (compareOp op') r') (hr : OpD g.k r oo) (hr' : OpD g.k r' oo') (hb : ∀ x y z, oo x y = some z → ∃ k, z = .bl k) (ha : PX X g W a f) (hc : PX X g W c h) (he : PX X g W e j)
    (hm : lastMarks [op, op'] [c, e] = false := by with_unfolding_all rfl) : PX X g W (.Compare a [op, op'] [c, e] pos) (xChain oo oo' f h j) :=
  pe_imp (pe_chain ho ho' ha hc he hm) fun _ _ _ => tx_chain hr hr' hb
end
end Fw
set_option Elab.async false
set_option linter.all false
set_option maxRecDepth 100000
set_option maxHeartbeats 1000000
/-! Fw9: the draws' box, an instance that is being made, making. -/
namespace Fw
open PySem PySem.Spec PyProof.Rows L2

section
variable {g : Cfg} {ρ : En} {b b' : Bx} {σ : L2.St} {H H0 H' H0' : Hp}
/-- an object of the box changed -/
theorem Good.inBox (G : Good g ρ b σ H H0) {l : Addr} {o : HO} (i : InB g.bx l) (B : BoxOk g.k H0 (L2.upd H l o) b') : Good g ρ b' σ (L2.upd H l o) H0 := by
  have h0 := (G.box.at i).1
  refine ⟨⟨G.tr.ext, fun a u e => ?_, fun a u e n => ?_, fun a e => ?_, G.tr.new⟩, G.len, fun j => ?_, G.apart, G.mine, B, G.bin, G.zin⟩
  · rw [upd_ne (ne_of_none e h0)]; exact G.tr.sub a u e
  · rw [upd_ne (fun q => by subst q; exact n i)]; exact G.tr.keep a u e n
  · by_cases ha : a = l
    · subst ha; rw [upd_same]; simp
    · rw [upd_ne ha]; exact G.tr.there a e
  · refine (G.slot j).mono (Same.refl _) (fun _ _ _ _ h _ => h) fun l' vs hs' hx hl' => ?_
    have ne : l' ≠ l := fun q => by subst q; exact G.notBox (i := j) ⟨hs', hx⟩ i
    rw [upd_ne ne]; exact hl'
def isBox (ρ : En) (i : Nat) : Bool := match ρ[i]? with
  | some (.val .box) => true
  | _ => false
theorem Good.draw (G : Good g ρ b σ H H0) {i : Nat} (h : isBox ρ i = true) : ∃ x y, g.bx = .draw x y ∧ σ[i]? = some (some (.ref x)) ∧ x ≠ y ∧ H0 x = none ∧ H0 y = none ∧ H x = some (.lst [.ref y, .int b.st]) ∧ H y = some (.lst (b.ns.map V.int)) := by
  unfold isBox at h
  split at h
  · rename_i e
    obtain ⟨v, e1, iv⟩ := G.val e
    cases iv with
    | box hb =>
      have B := G.box
      unfold BoxOk at B
      rw [hb] at B
      exact ⟨_, _, hb, e1, B⟩
  · cases h
theorem isBox_of {ρ : En} {i : Nat} (h : ρ[i]? = some (.val .box)) : isBox ρ i = true := by unfold isBox; rw [h]
end

/-! ### reading the draws' box -/
def xBSt (i : Nat) : Fx D := fun ρ b => if isBox ρ i then .ok (.int b.st) b else .bad
def xBHd (i : Nat) : Fx D := fun ρ b => if isBox ρ i then (match b.ns with
  | n :: _ => .ok (.int n) b
  | [] => .bad) else .bad
def xBNil (i : Nat) : Fx D := fun ρ b => if isBox ρ i then .ok (.bl b.ns.isEmpty) b else .bad
def kBSt (i : Nat) (f : Fx D) : Fs := fun ρ b => (f ρ b).out fun d b1 => match isBox ρ i, d with
  | true, .int n => .nx ρ { b1 with st := n }
  | _, _ => .bad
def kBHd (i : Nat) (f : Fx D) : Fs := fun ρ b => (f ρ b).out fun d b1 => match isBox ρ i, d, b1.ns with
  | true, .int n, _ :: r => .nx ρ { b1 with ns := n :: r }
  | _, _, _ => .bad
def kBPop (i : Nat) : Fs := fun ρ b => match isBox ρ i, b.ns with
  | true, _ :: r => .nx ρ { b with ns := r }
  | _, _ => .bad

section
variable {X : Cx} {g : Cfg} {W : WX} {e : Expr} {f : Fx D} {x : Str} {pos p p1 p2 p3 apos : Pos} {j j1 : Nat}
theorem depth_ints : ∀ ns : List Int, PyData.canLayAll0 (ns.map PyData.int) = true
  | [] => rfl
  | n :: ns => by
    show (PyData.canLay0 (.int n) && PyData.canLayAll0 (ns.map PyData.int)) = true
    rw [depth_ints ns]; rfl
theorem eqv_ints_nil (ns : List Int) : PyData.eqv (.list (ns.map PyData.int)) (.list []) = ns.isEmpty := by
  cases ns <;> rfl
theorem px_bSt (i : Nat) (hN : X.N[i]? = some x := by rfl) (hv : Vis X.env.scope x := by first | exact Or.inl rfl | exact Or.inr (Or.inl rfl) | exact Or.inr (Or.inr rfl)) (hd : (x == ("__debug__" : Str)) = false := by decide)
    (hcd : (x == ("__classdict__" : Str)) = false := by decide) : PX X g W (.Subscript (.Name x p) (.Constant (.int 1) j p1) pos) (xBSt i) := by
  refine pe_imp (pe_ix ix_seq (pe_var hN hv hd hcd) pe_int (fun _ _ => rfl)) ?_
  rintro σ H Q ⟨ρ, b, H0, G, F⟩
  unfold xBSt at F
  split at F
  · rename_i hb
    obtain ⟨a, y, e1, e2, e3, e4, e5, e6, e7⟩ := G.draw hb
    exact ⟨_, e2, .inl ⟨a, _, 1, _, rfl, rfl, .inl (.inl e6), rfl, F H0 H (Tr.refl G.sub) G.box _ (.int _)⟩⟩
  · exact F.elim
theorem px_bHd (i : Nat) (hN : X.N[i]? = some x := by rfl) (hv : Vis X.env.scope x := by first | exact Or.inl rfl | exact Or.inr (Or.inl rfl) | exact Or.inr (Or.inr rfl)) (hd : (x == ("__debug__" : Str)) = false := by decide)
    (hcd : (x == ("__classdict__" : Str)) = false := by decide) : PX X g W (.Subscript (.Subscript (.Name x p) (.Constant (.int 0) j p1) p2) (.Constant (.int 0) j1 p3) pos) (xBHd i) := by
  refine pe_imp (pe_ix ix_seq (pe_ix ix_seq (pe_var hN hv hd hcd) pe_int (fun _ _ => rfl)) pe_int (fun _ _ => rfl)) ?_
  rintro σ H Q ⟨ρ, b, H0, G, F⟩
  unfold xBHd at F
  split at F
  · rename_i hb
    obtain ⟨a, y, e1, e2, e3, e4, e5, e6, e7⟩ := G.draw hb
    cases hn : b.ns with
    | nil => simp only [hn] at F; exact F.elim
    | cons n r =>
      simp only [hn] at F
      rw [hn] at e7
      refine ⟨_, e2, .inl ⟨a, _, 0, _, rfl, rfl, .inl (.inl e6), rfl, .inl ⟨y, _, 0, _, rfl, rfl, .inl (.inl e7), ?_, F H0 H (Tr.refl G.sub) G.box _ (.int _)⟩⟩⟩
      show atI (V.int n :: r.map V.int) 0 = some (V.int n)
      simp [atI, ixN]
  · exact F.elim
theorem tx_bNil (i : Nat) {σ : L2.St} {H : Hp} {Q : VK} (zz : TX g W (xBNil i) σ H Q) : tOp (rEqD X.K) (tOp (rIx X.K) (tVar i) (tC (.int 0))) (tLst tNil) σ H Q := by
  revert σ H Q
  rintro σ H Q ⟨ρ, b, H0, G, F⟩
  unfold xBNil at F
  split at F
  · rename_i hb
    obtain ⟨a, y, e1, e2, e3, e4, e5, e6, e7⟩ := G.draw hb
    refine ⟨_, e2, .inl ⟨a, _, 0, _, rfl, rfl, .inl (.inl e6), rfl, by decide, fun q hq => ?_⟩⟩
    have ta := Tr.allocO (o := .lst []) G.sub hq
    refine ⟨.list (b.ns.map PyData.int), .list [], .lst (.inl (.inl (by rw [upd_ne (ne_of_none e7 hq)]; exact e7))) ?_, .lst (.inl (.inl upd_same)) .nil, ?_, by decide, ?_⟩
    · induction b.ns with
      | nil => exact .nil
      | cons n r ih => exact .cons (.int n) ih
    · unfold SeqAt.shaped
      rw [Bool.and_eq_true]
      refine ⟨depth_ints _, decide_eq_true ?_⟩
      have : ∀ ns : List Int, PyData.depthAll (ns.map PyData.int) ≤ 1 := by
        intro ns
        induction ns with
        | nil => simp [PyData.depthAll]
        | cons n r ih => simp only [List.map_cons, PyData.depthAll, PyData.depth]; omega
      have := this b.ns
      simp only [PyData.depth]; omega
    · rw [eqv_ints_nil]
      exact F H0 _ ta.weak (G.box.keep ta) _ (.bl _)
  · exact F.elim
theorem px_bNil (i : Nat) (hu : X.A.units + 64 < cLine) (hN : X.N[i]? = some x := by rfl) (hv : Vis X.env.scope x := by first | exact Or.inl rfl | exact Or.inr (Or.inl rfl) | exact Or.inr (Or.inr rfl)) (hd : (x == ("__debug__" : Str)) = false := by decide)
    (hcd : (x == ("__classdict__" : Str)) = false := by decide) : PX X g W (.Compare (.Subscript (.Name x p) (.Constant (.int 0) j p1) p2) [.Eq] [.List [] p3] pos) (xBNil i) :=
  pe_imp (pe_cmpR (op_eqD hu) (pe_ix ix_seq (pe_var hN hv hd hcd) pe_int (fun _ _ => rfl)) (pe_lst pa_nil) (nomark _)) fun _ _ _ => tx_bNil i
theorem pq_bNil (i : Nat) (hu : X.A.units + 64 < cLine) (hN : X.N[i]? = some x := by rfl) (hv : Vis X.env.scope x := by first | exact Or.inl rfl | exact Or.inr (Or.inl rfl) | exact Or.inr (Or.inr rfl)) (hd : (x == ("__debug__" : Str)) = false := by decide)
    (hcd : (x == ("__classdict__" : Str)) = false := by decide) : PQ X g W (.Compare (.Subscript (.Name x p) (.Constant (.int 0) j p1) p2) [.Eq] [.List [] p3] pos) (xT (xBNil i)) :=
  pt_imp (pt_cmpR (op_eqD hu) (pe_ix ix_seq (pe_var hN hv hd hcd) pe_int (fun _ _ => rfl)) (pe_lst pa_nil) (nomark _)) fun _ _ _ => tt_test fun _ _ _ => tx_bNil i
/-! ### writing the draws' box -/
theorem p1_bSt (i : Nat) (he : PX X g W e f) (hN : X.N[i]? = some x := by rfl) (hv : Vis X.env.scope x := by first | exact Or.inl rfl | exact Or.inr (Or.inl rfl) | exact Or.inr (Or.inr rfl)) (hd : (x == ("__debug__" : Str)) = false := by decide)
    (hcd : (x == ("__classdict__" : Str)) = false := by decide) (hs : swapsWithSole [.Subscript (.Name x p) (.Constant (.int 1) j p1) p2] e pos.line X.env = pure false := by rfl) (hw : swappedStores [.Subscript (.Name x p) (.Constant (.int 1) j p1) p2] e X.env = pure none := by rfl)
    (h1 : (assignEach [.Subscript (.Name x p) (.Constant (.int 1) j p1) p2] X.env).map (·.2) = [assign (.Subscript (.Name x p) (.Constant (.int 1) j p1) p2) X.env] := by rfl)
    (hA : ∀ v, assign (.Subscript (.Name x p) (.Constant (.int 1) j p1) p2) X.env v = (do
      let o1 ← holding [v] (eval (.Name x p) X.env)
      let i1 ← holding [v, o1] (eval (.Constant (.int 1) j p1) X.env)
      standAt p2
      holding [v, o1, i1] (setItem o1 i1 v)
      release [v, o1, i1] []) := by intro _; rfl) : P1 X g W (.Assign [.Subscript (.Name x p) (.Constant (.int 1) j p1) p2] e pos) (kBSt i f) := by
  refine ps_imp (ps_asg he (pg_sub (pe_var hN hv hd hcd) pe_int set_list hA) hs hw h1) ?_
  rintro Dd σ H ⟨ρ, b, H0, G, F⟩
  refine ⟨ρ, b, H0, G, (fin_out G F).mono fun d b1 H01 H1 t1 B1 F1 v iv => ?_⟩
  have G1 := G.step t1 B1
  cases hb : isBox ρ i with
  | false => simp only [hb] at F1; exact F1.elim
  | true =>
    cases iv with
    | int n =>
      simp only [hb] at F1
      obtain ⟨a, y, e1, e2, e3, e4, e5, e6, e7⟩ := G1.draw hb
      refine ⟨_, e2, a, _, 1, _, rfl, rfl, e6, rfl, F1 _ _ _ (G1.inBox (by rw [e1]; exact .inl rfl) ?_) (Same.refl _)⟩
      unfold BoxOk
      rw [show g.k.bx = _ from e1]
      exact ⟨e3, e4, e5, by rw [upd_same]; rfl, by rw [upd_ne (Ne.symm e3)]; exact e7⟩
    | _ => simp only [hb] at F1; exact F1.elim
theorem p1_bHd (i : Nat) (he : PX X g W e f) (hN : X.N[i]? = some x := by rfl) (hv : Vis X.env.scope x := by first | exact Or.inl rfl | exact Or.inr (Or.inl rfl) | exact Or.inr (Or.inr rfl)) (hd : (x == ("__debug__" : Str)) = false := by decide)
    (hcd : (x == ("__classdict__" : Str)) = false := by decide) {q1 q2 : Pos}
    (hs : swapsWithSole [.Subscript (.Subscript (.Name x p) (.Constant (.int 0) j p1) q1) (.Constant (.int 0) j1 q2) p2] e pos.line X.env = pure false := by rfl) (hw : swappedStores [.Subscript (.Subscript (.Name x p) (.Constant (.int 0) j p1) q1) (.Constant (.int 0) j1 q2) p2] e X.env = pure none := by rfl)
    (h1 : (assignEach [.Subscript (.Subscript (.Name x p) (.Constant (.int 0) j p1) q1) (.Constant (.int 0) j1 q2) p2] X.env).map (·.2) = [assign (.Subscript (.Subscript (.Name x p) (.Constant (.int 0) j p1) q1) (.Constant (.int 0) j1 q2) p2) X.env] := by rfl)
    (hA : ∀ v, assign (.Subscript (.Subscript (.Name x p) (.Constant (.int 0) j p1) q1) (.Constant (.int 0) j1 q2) p2) X.env v = (do
      let o1 ← holding [v] (eval (.Subscript (.Name x p) (.Constant (.int 0) j p1) q1) X.env)
      let i1 ← holding [v, o1] (eval (.Constant (.int 0) j1 q2) X.env)
      standAt p2
      holding [v, o1, i1] (setItem o1 i1 v)
      release [v, o1, i1] []) := by intro _; rfl) : P1 X g W (.Assign [.Subscript (.Subscript (.Name x p) (.Constant (.int 0) j p1) q1) (.Constant (.int 0) j1 q2) p2] e pos) (kBHd i f) := by
  refine ps_imp (ps_asg he (pg_sub (pe_ix ix_seq (pe_var hN hv hd hcd) pe_int (fun _ _ => rfl)) pe_int set_list hA) hs hw h1) ?_
  rintro Dd σ H ⟨ρ, b, H0, G, F⟩
  refine ⟨ρ, b, H0, G, (fin_out G F).mono fun d b1 H01 H1 t1 B1 F1 v iv => ?_⟩
  have G1 := G.step t1 B1
  cases hb : isBox ρ i with
  | false => simp only [hb] at F1; exact F1.elim
  | true =>
    cases iv with
    | int n =>
      simp only [hb] at F1
      cases hn : b1.ns with
      | nil => simp only [hn] at F1; exact F1.elim
      | cons m r =>
        simp only [hn] at F1
        obtain ⟨a, y, e1, e2, e3, e4, e5, e6, e7⟩ := G1.draw hb
        rw [hn] at e7
        refine ⟨_, e2, .inl ⟨a, _, 0, _, rfl, rfl, .inl (.inl e6), rfl, y, _, 0, 0, rfl, rfl, e7, by simp [ixN], F1 _ _ _ (G1.inBox (by rw [e1]; exact .inr rfl) ?_) (Same.refl _)⟩⟩
        unfold BoxOk
        rw [show g.k.bx = _ from e1]
        exact ⟨e3, e4, e5, by rw [upd_ne e3]; exact e6, by rw [upd_same]; rfl⟩
    | _ => simp only [hb] at F1; exact F1.elim
theorem p1_bPop (i : Nat) (hN : X.N[i]? = some x := by rfl) (hv : Vis X.env.scope x := by first | exact Or.inl rfl | exact Or.inr (Or.inl rfl) | exact Or.inr (Or.inr rfl)) (hd : (x == ("__debug__" : Str)) = false := by decide)
    (hcd : (x == ("__classdict__" : Str)) = false := by decide) {q1 q2 : Pos}
    (hbase : attributeBase (.Subscript (.Name x p) (.Constant (.int 0) j p1) q1) "pop" X.env (eval (.Subscript (.Name x p) (.Constant (.int 0) j p1) q1) X.env) = eval (.Subscript (.Name x p) (.Constant (.int 0) j p1) q1) X.env := by rfl)
    (hfew : ((backTo p2 (starEach [.Constant (.int 0) j1 q2] X.env)).all (fun x => !x.1) && (backToKw p2 (keywordEach [] X.env)).all (fun x => x.1.isSome) && decide (([.Constant (.int 0) j1 q2] : List Expr).length + ([] : List Keyword).length + (if ([] : List Keyword).isEmpty then 0 else 1) < 30)) = true := by rfl)
    (hline : (apos.endLine == p2.line) = true := by rfl) (hs : starEach [.Constant (.int 0) j1 q2] X.env = (false, eval (.Constant (.int 0) j1 q2) X.env) :: starEach [] X.env := by rfl) (hplain : (backTo p2 (starEach [] X.env)).any (·.1) = false := by rfl)
    (hsw : swapsWith (.Call (.Attribute (.Subscript (.Name x p) (.Constant (.int 0) j p1) q1) "pop" apos) [.Constant (.int 0) j1 q2] [] p2) none pos.line X.env = pure false := by rfl) :
    P1 X g W (.Expr (.Call (.Attribute (.Subscript (.Name x p) (.Constant (.int 0) j p1) q1) "pop" apos) [.Constant (.int 0) j1 q2] [] p2) pos) (kBPop i) := by
  refine ps_imp (ps_expr (pe_bm PySem.F.plainAttrs_list PySem.F.slot_list_pop PySem.F.type_list_pop mt_popAt (pe_ix ix_seq (pe_var hN hv hd hcd) pe_int (fun _ _ => rfl)) (pa_cons pe_int pa_nil hs) hbase hfew hline hs hplain) hsw) ?_
  rintro Dd σ H ⟨ρ, b, H0, G, F⟩
  unfold kBPop at F
  cases hb : isBox ρ i with
  | false => simp only [hb] at F; exact F.elim
  | true =>
    cases hn : b.ns with
    | nil => simp only [hb, hn] at F; exact F.elim
    | cons m r =>
      simp only [hb, hn] at F
      obtain ⟨a, y, e1, e2, e3, e4, e5, e6, e7⟩ := G.draw hb
      rw [hn] at e7
      refine ⟨_, e2, .inl ⟨a, _, 0, _, rfl, rfl, .inl (.inl e6), rfl, .inl ⟨rfl, _, .inl (.inl e7)⟩, y, _, 0, 0, V.int m, rfl, rfl, e7, by decide, by decide, by simp [seqIndex?], rfl, F _ _ _ (G.inBox (by rw [e1]; exact .inr rfl) ?_) (Same.refl _)⟩⟩
      unfold BoxOk
      rw [show g.k.bx = _ from e1]
      exact ⟨e3, e4, e5, by rw [upd_ne e3]; exact e6, by rw [upd_same]; rfl⟩
end
end Fw
set_option Elab.async false
set_option linter.all false
set_option maxRecDepth 100000
set_option maxHeartbeats 1000000
/-! Fw10: an instance that is being made, making one, boxes that are put in. -/
namespace Fw
open PySem PySem.Spec PyProof.Rows L2

/-! ### self.f = e in __init__ -/
def kSelf (i : Nat) (C : Addr) (nm : Str) (f : Fx D) : Fs := fun ρ b => (f ρ b).out fun d b1 => match ρ[i]? with
  | some (.val (.slf C')) => if C' = C ∧ b1.fs.contains nm = false ∧ b1.fs.length < 900 then .nx ρ { b1 with fs := b1.fs ++ [nm], ds := b1.ds ++ [d] } else .bad
  | _ => .bad
theorem putF_new {nm : Str} {v : V} : ∀ {fs : List Str} {vs : List V}, fs.contains nm = false → fs.length = vs.length → putF nm v (fs.zip vs) = (fs ++ [nm]).zip (vs ++ [v])
  | [], [], _, _ => rfl
  | x :: fs, w :: vs, h, hl => by
    simp only [List.contains_cons, Bool.or_eq_false_iff] at h
    have hx : x ≠ nm := fun q => by subst q; simp at h
    show putF nm v ((x, w) :: fs.zip vs) = (x, w) :: (fs ++ [nm]).zip (vs ++ [v])
    rw [← putF_new h.2 (by simpa using hl)]
    simp only [putF, if_neg hx]
section
variable {X : Cx} {g : Cfg} {W : WX} {e : Expr} {es : List Expr} {f : Fx D} {fl : Fx (List D)} {x nm : Str} {pos p p2 : Pos} {C : Addr}
theorem p1_self (i : Nat) (he : PX X g W e f) (hK : X.K = g.k.K) (c : Cls X.K C) (no : NoAttr X.K C nm) (hN : X.N[i]? = some x := by rfl) (hv : Vis X.env.scope x := by first | exact Or.inl rfl | exact Or.inr (Or.inl rfl) | exact Or.inr (Or.inr rfl)) (hd : (x == ("__debug__" : Str)) = false := by decide)
    (hcd : (x == ("__classdict__" : Str)) = false := by decide) (hs : swapsWith e (some (.Attribute (.Name x p) nm p2)) pos.line X.env = pure false := by rfl) : P1 X g W (.Assign [.Attribute (.Name x p) nm p2] e pos) (kSelf i C nm f) := by
  refine ps_imp (ps_fld (pe_var hN hv hd hcd) he hs) ?_
  rintro Dd σ H ⟨ρ, b, H0, G, F⟩
  refine ⟨ρ, b, H0, G, (fin_out G F).mono fun d b1 H01 H1 t1 B1 F1 v iv => ?_⟩
  have G1 := G.step t1 B1
  split at F1
  · rename_i C' hi
    split at F1
    · rename_i hc
      obtain ⟨rfl, hc1, hc2⟩ := hc
      obtain ⟨u, e1, iu⟩ := G1.val hi
      cases iu with
      | slf hb =>
        rename_i a
        have B := G1.box
        unfold BoxOk at B
        rw [hb] at B
        obtain ⟨h0, dx, vs, h1, h2, h3⟩ := B
        refine ⟨_, e1, a, _, dx, _, rfl, h1, c, no, ?_, F1 _ _ _ (G1.inBox (by rw [show g.bx = _ from hb]; exact rfl) ?_) (Same.refl _)⟩
        · rw [List.length_zip]; omega
        · unfold BoxOk
          rw [hb]
          exact ⟨h0, dx, vs ++ [v], by rw [upd_same, putF_new hc1 h2], by rw [List.length_append, List.length_append, h2]; rfl, h3.app (.cons iv .nil)⟩
    · exact F1.elim
  · exact F1.elim

/-! ### making an instance; nothing is raised -/
def mkR (C : Addr) (o : Out) (b1 : Bx) : Res D := match o with
  | .nx _ b2 => if cleanL b2.ds = true then .ok (.ins C b2.fs b2.ds) b1 else .bad
  | _ => .bad
def xMk (C : Addr) (n : Nat) (F : FD) (fl : Fx (List D)) : Fx D := fun ρ b => (fl ρ b).bind fun ds b1 => if ds.length + 1 = n ∧ cleanL ds = true then mkR C (F (.slf C :: ds) { b1 with fs := [], ds := [] }) b1 else .bad
structure MakD (P : Program) (w : World) (K : PySem.W.Frag) (mg : Str → Option Value) (base : Heap) (k : Nat) (x : Str) (C : Addr) (n : Nat) (F : FD) : Prop where
  ex : ∃ (f : Addr) (fd : FuncData) (ps : List Str), Mk K C f ∧ FnOk P w K mg base (L2.CX P w) k f fd ps (spD K n F) ∧ Binds K fd ps [] ∧ mg x = some (.ref C)
variable {k kk n : Nat} {F : FD}
theorem pxk (cl : MakD X.prog X.w X.K X.mg X.base k x C n F) (hr : Room kk X.A) (hk : k + 1 ≤ kk) (hK : X.K = g.k.K) (hpa : PL X g W (e :: es) fl) (hg : Gl X x := by rfl) (hdb : (x == ("__debug__" : Str)) = false := by decide)
    (he : starEach (e :: es) X.env = (false, eval e X.env) :: starEach es X.env := by rfl) (hpl : (backTo pos (starEach es X.env)).any (·.1) = false := by rfl) : PX X g W (.Call (.Name x p) (e :: es) [] pos) (xMk C n F fl) := by
  obtain ⟨fa, fd, ps, M, F1, b, hm⟩ := cl.ex
  refine pe_imp (pe_make M F1 (hr.mono hk) hg hm b .nil passL hpa hdb he hpl) ?_
  rintro σ H Q ⟨ρ, b, H0, G, FF⟩
  obtain ⟨⟨K, bx, z⟩, Hs, H0s⟩ := g
  have hK : X.K = K := hK
  subst hK
  refine ta_call G FF fun ds b1 H01 H1 vs t1 zo B1 il F2 => ?_
  intro a dx ha hdx hne
  split at F2
  · rename_i hc
    obtain ⟨hn, hcl⟩ := hc
    have h0a : H01 a = none := t1.sub.free ha
    have hst : ∀ c o, H1 c = some o → L2.upd (L2.upd H1 dx (.own a)) a (.ins C dx []) c = some o := fun c o q => by rw [upd_ne (ne_of_none q ha), upd_ne (ne_of_none q hdx)]; exact q
    have sb : Same H01 (L2.upd (L2.upd H1 dx (.own a)) a (.ins C dx [])) := fun c o q => hst c o (t1.sub c o q)
    refine ⟨by rw [List.append_nil, List.length_cons, ← il.length]; exact hn, .self a C, z, .slf C :: ds, { b1 with fs := [], ds := [] }, H01, sb, ?_, ?_, ?_, ?_⟩
    · intro c q
      cases hc : H1 c with
      | none => exact absurd hc (zo c q)
      | some o => rw [hst c o hc]; simp
    · exact ⟨h0a, dx, [], by rw [upd_same]; rfl, rfl, .nil⟩
    · rw [List.append_nil]
      exact .cons (.slf rfl) (il.rebox hcl)
    · have fin : ∀ b2 : Bx, Fin (mkG X.K bx z Hs H0s) W σ H01 H1 (if cleanL b2.ds = true then .ok (.ins C b2.fs b2.ds) b1 else .bad) (fun d _ H0' H' => ∀ v, Is ⟨X.K, bx, z⟩ H0' d v → Q v H') → ∀ (H0' H' : Hp), Tr (.self a C) H01 (L2.upd (L2.upd H1 dx (.own a)) a (.ins C dx [])) H0' H' →
          BoxOk ⟨X.K, .self a C, z⟩ H0' H' b2 → Q (.ref a) H' := by
        intro b2 F3 H0' H' t B
        split at F3
        · rename_i hcl2
          obtain ⟨h1, dx', vs', h2, h3, h4⟩ := B
          have e0 : Same H0' (L2.upd H0' a (.ins C dx' (b2.fs.zip vs'))) := fun c o q => by rw [upd_ne (ne_of_none q h1)]; exact q
          have kp : ∀ c o, H1 c = some o → H' c = some o := fun c o q => t.keep c o (hst c o q) fun i => by
            have i : c = a := i
            subst i; rw [ha] at q; cases q
          have nw : ∀ c, H01 c = none → H1 c ≠ none → L2.upd H0' a (.ins C dx' (b2.fs.zip vs')) c = none := fun c q n => by
            cases hc : H1 c with
            | none => exact absurd hc n
            | some o =>
              rw [upd_ne (ne_of_none hc ha)]
              exact t.new c q (by rw [hst c o hc]; simp) fun i => by
                have i : c = a := i
                subst i; rw [ha] at hc; cases hc
          refine F3 (L2.upd H0' a (.ins C dx' (b2.fs.zip vs'))) H' ⟨t.ext.trans e0, fun c o q => ?_, fun c o q _ => kp c o q, fun c n => ?_, fun c q n _ => nw c q n⟩ (B1.move (t.ext.trans e0) (fun c i => nw c (B1.at i).1 (B1.at i).2) fun c o _ q => kp c o q) _ ?_
          · by_cases hca : c = a
            · subst hca; rw [upd_same] at q; rw [h2]; exact q
            · rw [upd_ne hca] at q; exact t.sub c o q
          · cases hc : H1 c with
            | none => exact absurd hc n
            | some o => rw [kp c o hc]; simp
          · exact .ins upd_same h3 ((h4.mono e0).rebox hcl2)
        · exact F3.elim
      unfold mkR at F2
      revert F2
      generalize F (.slf C :: ds) { b1 with fs := [], ds := [] } = oo
      intro F2
      cases oo with
      | nx ρ' b2 => exact fun H0' H' t B => ⟨rfl, fin b2 F2 H0' H' t B⟩
      | _ => exact F2.elim
  · exact F2.elim
end

/-! ### a box put in -/
def cleanS : Sl → Sl
  | .val d => if clean d = true then .val d else .no
  | _ => .no
def cleanE (ρ : En) : En := ρ.map cleanS
theorem Good.rebox {g : Cfg} {ρ : En} {b b' : Bx} {σ : L2.St} {H H0 H2 : Hp} {bx' : Bk} (G : Good g ρ b σ H H0) (T : Tr .no H0 H H0 H2) (B' : BoxOk ⟨g.k.K, bx', g.k.z⟩ H0 H2 b') : Good (mkG g.k.K bx' g.k.z H2 H0) (cleanE ρ) b' σ H2 H0 := by
  have no : ∀ {i l}, ¬ OwnAt (cleanE ρ) σ i l := by
    rintro i l ⟨⟨ds, e⟩, _⟩
    unfold cleanE at e
    rw [List.getElem?_map] at e
    cases hr : ρ[i]? with
    | none => rw [hr] at e; cases e
    | some s =>
      rw [hr] at e
      cases s with
      | no => cases e
      | own _ => cases e
      | val d =>
        have e : cleanS (.val d) = .own ds := Option.some.inj e
        unfold cleanS at e
        dsimp only at e
        split at e <;> cases e
  refine ⟨Tr.refl T.sub, by unfold cleanE; rw [List.length_map]; exact G.len, fun i => ?_, fun i j l o => (no o).elim, fun i l o => (no o).elim, B', fun a i => (B'.at i).2, fun a q => T.there a (G.zok a q)⟩
  unfold cleanE
  rw [List.getElem?_map]
  have q := G.slot i
  cases hr : ρ[i]? with
  | none => trivial
  | some s =>
    rw [hr] at q
    cases s with
    | no => trivial
    | own _ => trivial
    | val d =>
      show SlOk _ _ _ (some (cleanS (.val d))) _
      unfold cleanS
      dsimp only
      split
      · rename_i hc
        obtain ⟨v, e1, iv⟩ := q
        exact ⟨v, e1, iv.rebox hc⟩
      · trivial
/-- the end of what runs with the box, seen from outside -/
def outBack (b : Bx) : Out → Out
  | .rt d _ => if clean d = true then .rt d b else .bad
  | .rto ds _ => if cleanL ds = true then .rto ds b else .bad
  | _ => .bad
theorem FinS.rebox {g : Cfg} {W W' : WX} {ρ : En} {b : Bx} {σ : L2.St} {H H0 H2 HB HB' : Hp} {bx' : Bk} {o : Out} {Dd : Ends} (G : Good g ρ b σ H H0) (T : Tr .no H0 H H0 H2) (fr : ∀ a, InB bx' a → H a = none) (F : FinS g W HB (outBack b o) Dd) :
    FinS (mkG g.k.K bx' g.k.z H2 H0) W' HB' o Dd := by
  have noN : ∀ a, ¬ InB .no a := fun _ z => z
  have kp : ∀ {H0z Hz : Hp}, Tr bx' H0 H2 H0z Hz → ∀ c u, H c = some u → Hz c = some u := fun t c u q => t.keep c u (T.keep c u q (noN c)) fun i => by rw [fr c i] at q; cases q
  have tr : ∀ {H0z Hz : Hp}, Tr bx' H0 H2 H0z Hz → Tr g.bx g.H0s g.Hs H0z Hz := fun t => G.tr.trans ⟨t.ext, t.sub, fun c u q _ => kp t c u q, fun c n => t.there c (T.there c n), fun c q n _ => t.new c q (T.there c n) fun i => n (fr c i)⟩
  have bk : ∀ {H0z Hz : Hp}, Tr bx' H0 H2 H0z Hz → BoxOk g.k H0z Hz b := fun t => G.box.move t.ext (fun c i => t.new c (G.box.at i).1 (T.there c (G.box.at i).2) fun i2 => (G.box.at i).2 (fr c i2)) fun c u _ q => kp t c u q
  cases o with
  | rt d b2 =>
    have F : FinS g W HB (if clean d = true then .rt d b else .bad) Dd := F
    split at F
    · rename_i hc
      exact fun v Hz H0z t B iv => F v Hz H0z (tr t) (bk t) (iv.rebox hc)
    · exact F.elim
  | rto ds b2 =>
    have F : FinS g W HB (if cleanL ds = true then .rto ds b else .bad) Dd := F
    split at F
    · rename_i hc
      refine fun l vs Hz H0z t B hn h0 hl il => F l vs Hz H0z (tr t) (bk t) ?_ h0 hl (il.rebox hc)
      cases q : g.Hs l with
      | none => rfl
      | some u => exact absurd hn (T.there l (G.tr.there l (by rw [q]; simp)))
    · exact F.elim
  | _ => exact F.elim

/-! ### the law's first line -/
def bx0 : Bx := ⟨[], 0, [], [], [], []⟩
def kBegun (i j : Nat) (F : FD) (kk : Fs) : Fs := fun ρ b => match ρ[j]? with
  | some (.val (.sql ds)) => (match intsOf ds, F [.sql ds] bx0 with
    | some _, .rto [.lst false ns, .int st] _ => (match intsOf ns with
      | some is => outBack b (kk ((cleanE ρ).set i (.val .box)) ⟨is, st, [], [], [], []⟩)
      | none => .bad)
    | _, _ => .bad)
  | _ => .bad
theorem ofInts : ∀ {ds : List D} {ns : List Int}, intsOf ds = some ns → ds = ns.map D.int
  | [], _, h => by cases h; rfl
  | .int i :: ds, ns, h => by
    have h : ((intsOf ds).map fun is => i :: is) = some ns := h
    cases hq : intsOf ds with
    | none => rw [hq] at h; cases h
    | some is => rw [hq] at h; cases h; rw [ofInts hq]; rfl
  | .non :: _, _, h | .bl _ :: _, _, h | .str _ :: _, _, h | .tup _ :: _, _, h | .lst _ _ :: _, _, h | .ins _ _ _ :: _, _, h | .adr _ :: _, _, h | .sql _ :: _, _, h | .dls :: _, _, h | .dct _ _ :: _, _, h | .box :: _, _, h | .slf _ :: _, _, h | .mem _ :: _, _, h => by cases h
section
variable {X : Cx} {g : Cfg} {W : WX} {ss : List Stmt} {kk : Fs} {t s : Str} {p1 p2 p3 pos cpos : Pos} {k k2 : Nat} {F : FD}
theorem pb_begun (i j : Nat) (cl : CalD X.prog X.w X.K X.mg X.base k "_law_begun" 1 F) (hr : Room k2 X.A) (hk : k ≤ k2) (hK : X.K = g.k.K) (tk : Takes X W) (hnd : X.N.Nodup) (h : ∀ x y Hs' H0s', PB X (mkG g.k.K (.draw x y) g.k.z Hs' H0s') W ss kk) (hg : Gl X "_law_begun" := by rfl) (hN : X.N[j]? = some s := by rfl) (hNi : X.N[i]? = some t := by rfl)
    (hv : Vis X.env.scope s := by first | exact Or.inl rfl | exact Or.inr (Or.inl rfl) | exact Or.inr (Or.inr rfl)) (hd : (s == ("__debug__" : Str)) = false := by decide) (hcd : (s == ("__classdict__" : Str)) = false := by decide)
    (hx : Loc X.env.scope t := by first | exact Or.inl rfl | exact Or.inr rfl) (hs : swapsWith (.Call (.Name "_law_begun" p1) [.Name s p2] [] cpos) (some (.Name t p3)) pos.line X.env = pure false := by rfl)
    (hf : X.fn t = true ∨ X.env.scope.names.lookup t = some .local := by first | exact .inl rfl | exact .inr rfl | assumption)
    (he : starEach [.Name s p2] X.env = (false, eval (.Name s p2) X.env) :: starEach [] X.env := by rfl) (hpl : (backTo cpos (starEach [] X.env)).any (·.1) = false := by rfl) :
    PB X g W (.Assign [.Name t p3] (.Call (.Name "_law_begun" p1) [.Name s p2] [] cpos) pos :: ss) (kBegun i j F kk) := by
  obtain ⟨fa, fd, ps, F1, b, hm, hk'⟩ := cl.ex
  have hrest : PSs X ss (fun Dd σ H => ∃ x y Hs' H0s', TB (mkG g.k.K (.draw x y) g.k.z Hs' H0s') W kk Dd σ H) := ⟨fun pins s σ H D I ⟨x, y, Hs', H0s', z⟩ => (h x y Hs' H0s').run pins s σ H D I z⟩
  refine pss_imp (pss_cons (ps_set hnd hNi hx (pe_callS F1 (hr.mono hk) hg hm hk' b (fun σ => passAt tk σ) (pa_cons (pe_var hN hv hd hcd) pa_nil he) (by decide) he hpl) hs hf) hrest) ?_
  rintro Dd σ H ⟨ρ, b0, H0, G, F2⟩
  unfold kBegun at F2
  split at F2
  · rename_i ds hj
    split at F2
    · rename_i is0 ns st bb h1 h2
      split at F2
      · rename_i is h3
        obtain ⟨v, e1, iv⟩ := G.val hj
        refine ⟨v, e1, ?_⟩
        cases iv with
        | @sql a vs ds hl il =>
          have hi0 := ofInts h1
          subst hi0
          have hvs := il.ints_inv
          subst hvs
          classical
          let z : Addr → Bool := fun c => decide (H c ≠ none)
          refine ⟨rfl, .no, z, [.sql (is0.map D.int)], bx0, H0, G.sub, fun c q => by simpa [z] using q, trivial, .cons (.sql (hK ▸ hl) (IsL.ints _)) .nil, ?_⟩
          rw [h2]
          intro l us H0' H' tt B hn h0 hH il2
          cases il2 with
          | @cons _ v1 _ vs1 i1 il2 =>
            cases il2 with
            | @cons _ v2 _ vs2 i2 il2 =>
              cases il2
              cases i2
              cases i1 with
              | @lst y ws _ _ hy hz il3 =>
                have hHy : H y = none := by simpa [z] using hz
                have e3 := ofInts h3
                subst e3
                have e4 := il3.ints_inv
                subst e4
                have hly : l ≠ y := fun q => by rw [q, hy] at h0; cases h0
                have T : Tr .no H0 H H0 H' := ⟨Same.refl _, tt.ext.trans tt.sub, tt.keep, tt.there, fun c q _ _ => q⟩
                have fr : ∀ c, InB (.draw l y) c → H c = none := by rintro c (rfl | rfl); exact hn; exact hHy
                have B' : BoxOk ⟨g.k.K, .draw l y, g.k.z⟩ H0 H' ⟨is, st, [], [], [], []⟩ := ⟨hly, G.sub.free hn, G.sub.free hHy, hH, tt.sub _ _ hy⟩
                refine ⟨l, y, H', H0, (cleanE ρ).set i (.val .box), ⟨is, st, [], [], [], []⟩, H0, (G.rebox T B').setV (.box rfl), ?_⟩
                exact FinS.rebox G T fr F2
        
      · exact F2.elim
    · exact F2.elim
  · exact F2.elim
end
end Fw
set_option Elab.async false
set_option linter.all false
set_option maxRecDepth 100000
set_option maxHeartbeats 1000000
/-! Fw11: chains of three, isinstance, text, facts of the module. -/
namespace Fw
open PySem PySem.Spec PyProof.Rows L2

/-! ### a ≤ b ≤ c ≤ d -/
def xChain3 (o1 o2 o3 : D → D → Option D) (f h j l : Fx D) : Fx D := fun ρ b => (f ρ b).bind fun x b1 => (h ρ b1).bind fun y b2 => match o1 x y with
  | some (.bl true) => (j ρ b2).bind fun z b3 => (match o2 y z with
    | some (.bl true) => (l ρ b3).bind fun u b4 => lift (o3 z u) b4
    | some (.bl false) => .ok (.bl false) b3
    | _ => .bad)
  | some (.bl false) => .ok (.bl false) b2
  | _ => .bad
section
variable {X : Cx} {g : Cfg} {W : WX} {a c e v : Expr} {f h j l : Fx D} {pos : Pos}
def tChain3 (r r' r'' : R2) (ta tb tc td : TE) : TE := fun σ H Q => ta σ H fun x H1 => tb σ H1 fun y H2 => r x y H2 fun z H3 => ∃ k, z = .bl k ∧
  (if k = true then tc σ H3 fun x3 H4 => r' y x3 H4 fun z2 H5 => ∃ k2, z2 = .bl k2 ∧ (if k2 = true then td σ H5 fun x4 H6 => r'' x3 x4 H6 Q else Q (.bl false) H5) else Q (.bl false) H3)
theorem pe_chain3 {op op' op'' : CmpOp} {r r' r'' : R2} {ta tb tc td : TE} (ho : OpR X (compareOp op) r) (ho' : OpR X (compareOp op') r') (ho'' : OpR X (compareOp op'') r'') (ha : PE X a ta) (hb : PE X c tb) (hc : PE X e tc) (hd : PE X v td)
    (hm : lastMarks [op, op', op''] [c, e, v] = false := by with_unfolding_all rfl) : PE X (.Compare a [op, op', op''] [c, e, v] pos) (tChain3 r r' r'' ta tb tc td) := by
  refine ⟨fun pins s σ H Q I hh => ?_⟩
  refine Compare_chain (thn (ha.run pins s σ H _ I hh) fun v1 s1 ⟨x, H1, I1, r1, q1⟩ => chain_link (thn (hb.run pins s1 σ H1 _ I1 q1) fun u1 s2 ⟨y, H2, I2, r2, q2⟩ =>
    thn (ho pins s2 σ H2 x y v1 u1 _ I2 r1 r2 q2) fun d1 s3 ⟨z, H3, I3, r3, k, e1, q3⟩ => ?_)) hm
  subst e1
  cases r3
  refine wpAny_truthy_bool ?_
  cases k with
  | false => exact ite_ff ⟨.bl false, H3, I3, rfl, q3⟩
  | true =>
    refine ite_tt (chain_link (thn (hc.run pins s3 σ H3 _ I3 q3) fun w1 s4 ⟨z1, H4, I4, r4, q4⟩ => thn (ho' pins s4 σ H4 y z1 u1 w1 _ I4 r2 r4 q4) fun d2 s5 ⟨z2, H5, I5, r5, k2, e2, q5⟩ => ?_))
    subst e2
    cases r5
    refine wpAny_truthy_bool ?_
    cases k2 with
    | false => exact ite_ff ⟨.bl false, H5, I5, rfl, q5⟩
    | true => exact ite_tt (chain_last (thn (hd.run pins s5 σ H5 _ I5 q5) fun w2 s6 ⟨z3, H6, I6, r6, q6⟩ => ho'' pins s6 σ H6 z1 z3 w1 w2 Q I6 r4 r6 q6))
theorem px_chain3 {op op' op'' : CmpOp} {r r' r'' : R2} {o1 o2 o3 : D → D → Option D} (ho : OpR X (compareOp op) r) (hr : OpD g.k r o1) (ho' : OpR X (compareOp op') r') (hr' : OpD g.k r' o2) (ho'' : OpR X (compareOp op'') r'') (hr'' : OpD g.k r'' o3)
    (hb : ∀ x y z, o1 x y = some z → ∃ k, z = .bl k) (hb' : ∀ x y z, o2 x y = some z → ∃ k, z = .bl k) (ha : PX X g W a f) (hc : PX X g W c h) (he : PX X g W e j) (hv : PX X g W v l)
    (hm : lastMarks [op, op', op''] [c, e, v] = false := by with_unfolding_all rfl) : PX X g W (.Compare a [op, op', op''] [c, e, v] pos) (xChain3 o1 o2 o3 f h j l) := by
  refine pe_imp (pe_chain3 ho ho' ho'' ha hc he hv hm) ?_
  rintro σ H Q ⟨ρ, b, H0, G, F⟩
  refine ⟨ρ, b, H0, G, F.bind.mono fun x b1 H01 H1 t1 B1 F1 vx ix => ⟨ρ, b1, H01, G.step t1 B1, F1.bind.mono fun y b2 H02 H2 t2 B2 F2 vy iy => ?_⟩⟩
  have G2 := (G.step t1 B1).step t2 B2
  cases h1 : o1 x y with
  | none => simp only [h1] at F2; exact F2.elim
  | some w =>
    obtain ⟨k, rfl⟩ := hb _ _ _ h1
    refine hr H02 H2 x y _ vx vy t2.sub G2.zok (ix.mono t2.ext) iy h1 _ fun v H03 H3 t3 iz => ?_
    cases iz
    refine ⟨k, rfl, ?_⟩
    have B3 := B2.keep t3
    have G3 := G2.step t3.weak B3
    simp only [h1] at F2
    cases k with
    | false =>
      refine iteF ?_
      exact F2 H03 H3 t3.weak B3 _ (.bl false)
    | true =>
      refine iteT ?_
      refine ⟨ρ, b2, H03, G3, (Fin.move F2 t3.weak).bind.mono fun z b3 H04 H4 t4 B4 F4 vz iz => ?_⟩
      have G4 := G3.step t4 B4
      have iy4 := (iy.mono t3.ext).mono t4.ext
      cases h2 : o2 y z with
      | none => simp only [h2] at F4; exact F4.elim
      | some w2 =>
        obtain ⟨k2, rfl⟩ := hb' _ _ _ h2
        refine hr' H04 H4 y z _ vy vz t4.sub G4.zok iy4 iz h2 _ fun v H05 H5 t5 iz5 => ?_
        cases iz5
        refine ⟨k2, rfl, ?_⟩
        have B5 := B4.keep t5
        have G5 := G4.step t5.weak B5
        simp only [h2] at F4
        cases k2 with
        | false =>
          refine iteF ?_
          exact F4 H05 H5 t5.weak B5 _ (.bl false)
        | true =>
          refine iteT ?_
          refine ⟨ρ, b3, H05, G5, (Fin.move F4 t5.weak).bind.mono fun u b4 H06 H6 t6 B6 F6 vu iu => ?_⟩
          have G6 := G5.step t6 B6
          cases h3 : o3 z u with
          | none => rw [h3] at F6; exact F6.elim
          | some w3 =>
            rw [h3] at F6
            exact hr'' H06 H6 z u w3 vz vu t6.sub G6.zok ((iz.mono t5.ext).mono t6.ext) iu h3 Q fun v H0' H' t iw => F6 H0' H' t.weak (B6.keep t) v iw

/-! ### isinstance(e, T), T a built-in type -/
def tyD : D → Option String
  | .non => some "NoneType"
  | .bl _ => some "bool"
  | .int _ => some "int"
  | .str _ => some "str"
  | .tup _ => some "tuple"
  | .lst _ _ => some "list"
  | _ => none
def isiD (T : String) (d : D) : Option D := (tyD d).bind fun t => (kitB t T).map D.bl
theorem tyX_of {k : Kx} {H : Hp} {d : D} {v : V} {t : String} (iv : Is k H d v) (h : tyD d = some t) : TyX k.K H v (.type t) := by
  cases iv <;> first | (cases h; done) | skip
  case non => cases h; exact .base .non
  case bl => cases h; exact .base (.bl _)
  case int => cases h; exact .base (.int _)
  case str => cases h; exact .base (.str _)
  case lst hl _ _ => cases h; exact .base (.lst hl)
  case tup hl _ =>
    cases h
    rcases hl with (hl | ⟨o, hl⟩) | ⟨o, its, n, hl, hc, _⟩
    · exact .base (.tup hl)
    · exact .fTuple hl
    · exact .kTuple hl hc
theorem px_isi {T : String} {x : Str} {p p1 : Pos} (hx : bootBuiltins x = some (.type T)) (hK : X.K = g.k.K) (he : PX X g W e f) (hg : Gl X "isinstance") (hm : X.mg "isinstance" = none) (hgx : Gl X x) (hmx : X.mg x = none)
    (hd : (x == ("__debug__" : Str)) = false) (hn : x ≠ "__name__") (hs1 : starEach [e, .Name x p1] X.env = (false, eval e X.env) :: starEach [.Name x p1] X.env := by rfl) (hs2 : starEach [.Name x p1] X.env = (false, eval (.Name x p1) X.env) :: starEach [] X.env := by rfl)
    (hpl : (backTo pos (starEach [.Name x p1] X.env)).any (·.1) = false := by rfl) : PX X g W (.Call (.Name "isinstance" p) [e, .Name x p1] [] pos) (xUn (isiD T) f) := by
  refine pe_imp (pe_callB call_isi hg hm PyProof.Rows.boot_isinstance (pa_cons he (pa_cons (pe_bltn hgx hmx hx (v := .ty T) rfl hn hd) pa_nil hs2) hs1) (by decide) (by decide) hs1 hpl) ?_
  rintro σ H Q ⟨ρ, b, H0, G, F⟩
  refine ⟨ρ, b, H0, G, F.bind.mono fun d b1 H01 H1 t1 B1 F1 v iv => ?_⟩
  unfold isiD at F1
  cases ht : tyD d with
  | none => rw [ht] at F1; exact F1.elim
  | some t =>
    rw [ht] at F1
    have F1 : Fin g W σ H01 H1 (lift ((kitB t T).map D.bl) b1) _ := F1
    cases hk : kitB t T with
    | none => rw [hk] at F1; exact F1.elim
    | some r =>
      rw [hk] at F1
      exact ⟨v, .ty T, .type t, .type T, r, rfl, .ty T, (by rw [hK]; exact tyX_of (iv.mono t1.sub) ht), kit_ty hk, F1 H01 H1 (Tr.refl t1.sub) B1 _ (.bl r)⟩

/-! ### text -/
def str1 : List D → Option D
  | [.int i] => if -1000000 ≤ i ∧ i ≤ 1000000 then some (.str (toString i)) else none
  | _ => none
theorem log_small {i : Int} (h : -1000000 ≤ i ∧ i ≤ 1000000) : i.natAbs.log2 < 1920 := by
  by_cases h0 : i.natAbs = 0
  · rw [h0]; decide
  · refine (Nat.log2_lt h0).2 (Nat.lt_of_lt_of_le (show i.natAbs < 2 ^ 20 by omega) (Nat.pow_le_pow_right (by decide) (by decide)))
theorem cld_str {k : Kx} : ClD k (fun xs H Q => ∃ i, xs = [.int i] ∧ i.natAbs.log2 < 1920 ∧ Q (.str (toString i)) H) str1 := by
  intro H0 H xs z vs e zo il h Q q
  unfold str1 at h
  split at h
  · split at h
    · rename_i hz
      cases h
      cases il with
      | cons i l => cases l; cases i; exact ⟨_, rfl, log_small hz, q _ H0 H (Tr.refl e) (.str _)⟩
    · cases h
  · cases h
def strOf : D → Option Str
  | .str x => some x
  | _ => none
def strsOf : List D → Option (List Str)
  | [] => some []
  | d :: ds => (strOf d).bind fun i => (strsOf ds).map fun is => i :: is
theorem strsOf_is {k : Kx} {H : Hp} : ∀ {ds : List D} {vs : List V} {ns : List Str}, IsL k H ds vs → strsOf ds = some ns → vs = ns.map V.str
  | _, _, _, .nil, h => by cases h; rfl
  | _, _, ns, .cons (d := d) (ds := ds) hi hl, h => by
    have h : ((strOf d).bind fun i => (strsOf ds).map fun is => i :: is) = some ns := h
    cases hi with
    | str i =>
      have h : ((strsOf ds).map fun is => i :: is) = some ns := h
      cases hq : strsOf ds with
      | none => rw [hq] at h; cases h
      | some is => rw [hq] at h; cases h; rw [strsOf_is hl hq]; rfl
    | _ => cases h
def xM1 (o : Str → D → Option D) (f h : Fx D) : Fx D := fun ρ b => (f ρ b).bind fun d b1 => match d with
  | .str a => (h ρ b1).bind fun c b2 => lift (o a c) b2
  | _ => .bad
def joinD (a : Str) : D → Option D
  | .lst _ ds => (strsOf ds).bind fun ys => if (ys.map (·.length)).sum + ys.length * a.length ≤ 1000000 then some (.str (Txt.join a ys)) else none
  | _ => none
theorem px_join {o : Expr} {h : Fx D} {apos : Pos} (hK : X.K = g.k.K) (ho : PX X g W o f) (he : PX X g W e h) (hs : starEach [e] X.env = [(false, eval e X.env)] := by rfl) (hbase : attributeBase o "join" X.env (eval o X.env) = eval o X.env := by rfl) (hline : (apos.endLine == pos.line) = true := by rfl) :
    PX X g W (.Call (.Attribute o "join" apos) [e] [] pos) (xM1 joinD f h) := by
  refine pe_imp (pe_join ho he hs hbase hline) ?_
  rintro σ H Q ⟨ρ, b, H0, G, F⟩
  refine ⟨ρ, b, H0, G, F.bind.mono fun d b1 H01 H1 t1 B1 F1 v iv => ?_⟩
  cases iv with
  | str a =>
    refine ⟨⟨a, rfl⟩, ρ, b1, H01, G.step t1 B1, F1.bind.mono fun c b2 H02 H2 t2 B2 F2 u iu => ?_⟩
    cases iu with
    | lst hl _ il =>
      rename_i l vs ds zz qq
      have F2 : Fin g W σ H02 H2 (lift ((strsOf ds).bind fun ys => if (ys.map (·.length)).sum + ys.length * a.length ≤ 1000000 then some (D.str (Txt.join a ys)) else none) b2) _ := F2
      cases hy : strsOf ds with
      | none => rw [hy] at F2; exact F2.elim
      | some ys =>
        rw [hy] at F2
        have F2 : Fin g W σ H02 H2 (lift (if (ys.map (·.length)).sum + ys.length * a.length ≤ 1000000 then some (D.str (Txt.join a ys)) else none) b2) _ := F2
        split at F2
        · rename_i hz
          have e1 := strsOf_is il hy
          subst e1
          exact ⟨a, l, ys, rfl, rfl, .inl (.inl (.inl (t2.sub _ _ hl))), by omega, F2 H02 H2 (Tr.refl t2.sub) B2 _ (.str _)⟩
        · exact F2.elim
    | _ => exact F2.elim
  | _ => exact F1.elim
def splitD (a : Str) : D → Option (List D)
  | .str b => if (b.length == 0) = false ∧ a.length + 2 ≤ 100000 then some ((Txt.split a b).map .str) else none
  | _ => none
/-- facts of the module that every def may lean on -/
theorem px_gint {x : Str} {n : Int} (hm : ∃ t, X.mg x = some (.int n t)) (hg : Gl X x := by rfl) (hd : (x == ("__debug__" : Str)) = false := by decide) : PX X g W (.Name x pos) (xC (.int n)) := by
  obtain ⟨t, hm⟩ := hm
  exact px_glob (v := .int n) hg hm ⟨t, rfl⟩ (fun _ _ => .int n) hd
theorem op_geD : OpR X (compareOp .GtE) (rI0 fun i j => .bl (decide (j ≤ i))) := op_ge
end
/-- the built-ins' names stand free -/
structure Bi (mg : Str → Option Value) : Prop where
  b_len : mg "len" = none
  b_range : mg "range" = none
  b_enumerate : mg "enumerate" = none
  b_min : mg "min" = none
  b_max : mg "max" = none
  b_int : mg "int" = none
  b_str : mg "str" = none
  b_list : mg "list" = none
  b_tuple : mg "tuple" = none
  b_sum : mg "sum" = none
  b_sorted : mg "sorted" = none
  b_bool : mg "bool" = none
  b_isinstance : mg "isinstance" = none
end Fw
namespace Fw
open PySem PySem.Spec PyProof.Rows L2
section
variable {P : Program} {w : World} {K : PySem.W.Frag} {mg : Str → Option Value} {base : Heap}
/-- of a def that calls itself: at level 0 nothing is promised -/
theorem calD0 {x qual : Str} {st : Stmt} {f : Addr} {fd : FuncData} {N ps : List Str} (F : Fun K x qual st f fd) (S : FnScope N ps (defScope st)) (hm : mg x = some (.ref f)) (b : Binds K fd ps []) : CalD P w K mg base 0 x ps.length (fun _ _ => .bad) :=
  ⟨⟨f, fd, ps, ⟨fun vs H Q E h => h.1, fun A stack s H args us vs Q E hr e b r h => by
    obtain ⟨_, bx, z, ds, bb, H0, _, _, _, _, post⟩ := h
    exact post.elim⟩, b, hm, F.kp⟩⟩
end
end Fw
set_option Elab.async false
set_option linter.all false
set_option maxRecDepth 100000
set_option maxHeartbeats 1000000
/-! Fw12: in, split, a dict of lists. -/
namespace Fw
open PySem PySem.Spec PyProof.Rows L2

/-! ### x in flat items -/
def flatOf : D → Option V
  | .non => some .non
  | .bl b => some (.bl b)
  | .int i => some (.int i)
  | .str x => some (.str x)
  | _ => none
def flatsOf : List D → Option (List V)
  | [] => some []
  | d :: ds => (flatOf d).bind fun v => (flatsOf ds).map fun vs => v :: vs
theorem flatOf_is {k : Kx} {H : Hp} {d : D} {v u : V} (i : Is k H d v) (h : flatOf d = some u) : v = u ∧ flatV u = true := by
  cases i <;> first | (cases h; done) | (cases h; exact ⟨rfl, rfl⟩)
theorem flatsOf_is {k : Kx} {H : Hp} : ∀ {ds : List D} {vs us : List V}, IsL k H ds vs → flatsOf ds = some us → vs = us ∧ us.all flatV = true
  | _, _, _, .nil, h => by cases h; exact ⟨rfl, rfl⟩
  | _, _, us, .cons (d := d) (ds := ds) hi hl, h => by
    have h : ((flatOf d).bind fun v => (flatsOf ds).map fun vs => v :: vs) = some us := h
    cases hd : flatOf d with
    | none => rw [hd] at h; cases h
    | some w =>
      rw [hd] at h
      cases hq : flatsOf ds with
      | none => rw [hq] at h; cases h
      | some ws =>
        rw [hq] at h
        cases h
        obtain ⟨e1, f1⟩ := flatOf_is hi hd
        obtain ⟨e2, f2⟩ := flatsOf_is hl hq
        exact ⟨by rw [e1, e2], by rw [List.all_cons, f1, f2]; rfl⟩
def inF (neg : Bool) (x y : D) : Option D := (match y with
  | .lst _ ys => some ys
  | .tup ys => some ys
  | _ => none).bind fun ys => (flatOf x).bind fun v => (flatsOf ys).map fun vs => .bl (if neg then !inV v vs else inV v vs)
theorem opd_inF {k : Kx} (neg : Bool) : OpD k (rIn k.K neg) (inF neg) := by
  intro H0 H x y z vx vy e zo ix iy h Q q
  have key : ∀ {a : Addr} {ys : List D} {ws : List V}, (SqL k.K H a ws ∨ SqT k.K H a ws) → IsL k H0 ys ws → ((flatOf x).bind fun v => (flatsOf ys).map fun vs => D.bl (if neg then !inV v vs else inV v vs)) = some z → rIn k.K neg vx (.ref a) H Q := by
    intro a ys ws hs il h
    cases hd : flatOf x with
    | none => rw [hd] at h; cases h
    | some w =>
      rw [hd] at h
      cases hq : flatsOf ys with
      | none => rw [hq] at h; cases h
      | some us =>
        rw [hq] at h
        cases h
        obtain ⟨e1, f1⟩ := flatOf_is ix hd
        obtain ⟨e2, f2⟩ := flatsOf_is il hq
        subst e1 e2
        exact ⟨a, ws, rfl, hs, f1, f2, q _ H0 H (Tr.refl e) (.bl _)⟩
  cases iy <;> first | (cases h; done) | skip
  case lst hl _ il => exact key (.inl (.inl (.inl (e _ _ hl)))) il h
  case tup hl il => exact key (.inr (same_t e hl)) il h
/-- a text in a text -/
def inStr (neg : Bool) : D → D → Option D
  | .str i, .str j => some (.bl (if neg then !(!(Builtin.Str.occurrences j i 0 j.length 1).isEmpty) else !(Builtin.Str.occurrences j i 0 j.length 1).isEmpty))
  | _, _ => none
theorem opd_notInStr {k : Kx} : OpD k (fun x y H Q => ∃ i j, x = .str i ∧ y = .str j ∧ Q (.bl (!(!(Builtin.Str.occurrences j i 0 j.length 1).isEmpty))) H) (inStr true) := by
  intro H0 H x y z vx vy e zo ix iy h Q q
  cases ix <;> cases iy <;> first | (cases h; done) | skip
  cases h
  exact ⟨_, _, rfl, rfl, q _ H0 H (Tr.refl e) (.bl _)⟩
/-- int(text) -/
def int2 : List D → Option D
  | [.str a] => if a.length ≤ 640 then (PySem.intText? a).map .int else none
  | _ => none
theorem cld_int2 {k : Kx} : ClD k (fun xs H Q => ∃ a n, xs = [.str a] ∧ PySem.intText? a = some n ∧ a.length ≤ 640 ∧ Q (.int n) H) int2 := by
  intro H0 H xs z vs e zo il h Q q
  unfold int2 at h
  split at h
  · rename_i a
    split at h
    · rename_i hz
      cases hn : PySem.intText? a with
      | none => rw [hn] at h; cases h
      | some n =>
        rw [hn] at h
        cases h
        cases il with
        | cons i l => cases l; cases i; exact ⟨a, n, rfl, hn, hz, q _ H0 H (Tr.refl e) (.int _)⟩
    · cases h
  · cases h

section
variable {X : Cx} {g : Cfg} {W : WX} {e o : Expr} {es : List Expr} {f h : Fx D} {x : Str} {pos p p1 p2 p3 apos cpos : Pos} {ss : List Stmt} {kk : Fs} {j : Nat}
/-- a.split(b): a new list -/
def xSplit (f h : Fx D) : Fx (List D) := fun ρ b => (f ρ b).bind fun d b1 => match d with
  | .str a => (h ρ b1).bind fun c b2 => lift (splitD a c) b2
  | _ => .bad
theorem IsL.strs {k : Kx} {H : Hp} : ∀ (ns : List Str), IsL k H (ns.map D.str) (ns.map V.str)
  | [] => .nil
  | n :: ns => .cons (.str n) (IsL.strs ns)
theorem po_split (ho : PX X g W o f) (he : PX X g W e h) (hs : starEach [e] X.env = [(false, eval e X.env)] := by rfl) (hbase : attributeBase o "split" X.env (eval o X.env) = eval o X.env := by rfl) (hline : (apos.endLine == pos.line) = true := by rfl) :
    PN X g W (.Call (.Attribute o "split" apos) [e] [] pos) (xSplit f h) := by
  refine pe_imp (pe_split ho he hs hbase hline) ?_
  rintro σ H Q ⟨ρ, b, H0, G, F⟩
  refine ⟨ρ, b, H0, G, F.bind.mono fun d b1 H01 H1 t1 B1 F1 v iv => ?_⟩
  cases iv with
  | str a =>
    refine ⟨⟨a, rfl⟩, ρ, b1, H01, G.step t1 B1, F1.bind.mono fun c b2 H02 H2 t2 B2 F2 u iu => ?_⟩
    cases iu with
    | str c =>
      have F2 : Fin g W σ H02 H2 (lift (if (c.length == 0) = false ∧ a.length + 2 ≤ 100000 then some ((Txt.split a c).map D.str) else none) b2) _ := F2
      split at F2
      · rename_i hz
        refine ⟨a, c, rfl, rfl, hz.1, Nat.le_trans hz.2 (by decide), ?_⟩
        intro p hp
        have ta := Tr.allocO (o := .lst ((Txt.split a c).map V.str)) t2.sub hp
        refine F2 _ _ ta.weak (B2.keep ta) p _ ?_ (t2.sub.free hp) upd_same (IsL.strs _)
        cases q : H p with
        | none => rfl
        | some u => exact absurd hp (t2.there p (t1.there p (by rw [q]; simp)))
      · exact F2.elim
    | _ => exact F2.elim
  | _ => exact F1.elim
/-- a tuple of texts of the module -/
def TupC (K : PySem.W.Frag) (mg : Str → Option Value) (x : Str) (ns : List Str) : Prop := ∃ a, mg x = some (.ref a) ∧ ∃ (o : Obj) (its : Array Value) (n : Nat), K.lookup a = some o ∧ o.cls = .type "tuple" ∧ o.dict = none ∧ o.data = .seq its n ∧ its.size ≤ sizeLine ∧ Vals (ns.map V.str) its.toList
theorem px_gtup {ns : List Str} (hm : TupC X.K X.mg x ns) (hK : X.K = g.k.K) (hg : Gl X x := by rfl) (hd : (x == ("__debug__" : Str)) = false := by decide) :
    PX X g W (.Name x pos) (xC (.tup (ns.map .str))) := by
  obtain ⟨a, hm, o, its, n, h1, h2, h3, h4, h5, h6⟩ := hm
  refine pe_imp (pe_glob (v := .ref a) hg hm rfl hd) ?_
  rintro σ H Q ⟨ρ, b, H0, G, F⟩
  exact F H0 H (Tr.refl G.sub) G.box _ (.tup (.inr ⟨o, its, n, hK ▸ h1, h2, h4, h5, h6⟩) (IsL.strs ns))
def xTidx (ns : List Str) (f : Fx D) : Fx D := fun ρ b => (f ρ b).bind fun d b1 => match d with
  | .str z => (match ns.findIdx? (fun y => decide (y = z)) with
    | some j => .ok (.int j) b1
    | none => .bad)
  | _ => .bad
theorem px_tidx {ns : List Str} (hm : TupC X.K X.mg x ns) (he : PX X g W e f) (hg : Gl X x := by rfl) (hd : (x == ("__debug__" : Str)) = false := by decide)
    (hbase : attributeBase (.Name x p) "index" X.env (eval (.Name x p) X.env) = eval (.Name x p) X.env := by rfl)
    (hfew : ((backTo pos (starEach [e] X.env)).all (fun x => !x.1) && (backToKw pos (keywordEach [] X.env)).all (fun x => x.1.isSome) && decide (([e] : List Expr).length + ([] : List Keyword).length + (if ([] : List Keyword).isEmpty then 0 else 1) < 30)) = true := by rfl)
    (hline : (apos.endLine == pos.line) = true := by rfl) (hs : starEach [e] X.env = (false, eval e X.env) :: starEach [] X.env := by rfl) (hplain : (backTo pos (starEach [] X.env)).any (·.1) = false := by rfl) :
    PX X g W (.Call (.Attribute (.Name x p) "index" apos) [e] [] pos) (xTidx ns f) := by
  obtain ⟨a, hm, o, its, n, h1, h2, h3, h4, h5, h6⟩ := hm
  refine pe_imp (pe_bm PySem.F.plainAttrs_tuple PySem.F.slot_tuple_index PySem.F.type_tuple_index mt_tup_index (pe_glob (v := .ref a) hg hm rfl hd) (pa_cons he pa_nil hs) hbase hfew hline hs hplain) ?_
  rintro σ H Q ⟨ρ, b, H0, G, F⟩
  refine ⟨.inr (.inl ⟨rfl, o, h1, h2, h3⟩), ρ, b, H0, G, F.bind.mono fun d b1 H01 H1 t1 B1 F1 v iv => ?_⟩
  cases iv with
  | str z =>
    dsimp only at F1
    cases hj : ns.findIdx? (fun y => decide (y = z)) with
    | none => rw [hj] at F1; exact F1.elim
    | some j =>
      rw [hj] at F1
      obtain ⟨hlt, h7, h8⟩ := List.findIdx?_eq_some_iff_getElem.mp hj
      refine ⟨a, ns, z, j, rfl, rfl, .inr ⟨o, its, n, h1, h2, h4, h5, h6⟩, ?_, fun m hm q => ?_, F1 H01 H1 (Tr.refl t1.sub) B1 _ (.int _)⟩
      · rw [List.getElem?_eq_getElem hlt]; exact congrArg some (of_decide_eq_true h7)
      · have hml : m < ns.length := Nat.lt_trans hm hlt
        rw [List.getElem?_eq_getElem hml] at q
        have := h8 m hm
        simp only [Option.some.inj q, decide_true, Bool.not_true] at this
        exact absurd this (by decide)
  | _ => exact F1.elim
theorem px_gstr {v : Str} (hm : ∃ t, X.mg x = some (.str v t)) (hg : Gl X x := by rfl) (hd : (x == ("__debug__" : Str)) = false := by decide) : PX X g W (.Name x pos) (xC (.str v)) := by
  obtain ⟨t, hm⟩ := hm
  exact px_glob (v := .str v) hg hm ⟨t, rfl⟩ (fun _ _ => .str v) hd
def idxT (x : D) : List D → Option D
  | [.str z] => (match x with
    | .tup ds => (strsOf ds).bind fun ys => (ys.findIdx? (· == z)).map fun j => .int j
    | _ => none)
  | _ => none

/-! ### a dict of three lists that grow -/
def isDls (ρ : En) (i : Nat) : Bool := match ρ[i]? with
  | some (.val .dls) => true
  | _ => false
theorem Good.dls {ρ : En} {b : Bx} {σ : L2.St} {H H0 : Hp} (G : Good g ρ b σ H H0) {i : Nat} (h : isDls ρ i = true) : ∃ a ls, g.bx = .dls a ls ∧ σ[i]? = some (some (.ref a)) ∧ H0 a = none ∧ a ∉ ls ∧ ls.Nodup ∧ b.fs.length = ls.length ∧ H a = some (.dK (kvD b.fs (ls.map V.ref))) ∧ DL g.k H0 H ls b.ls := by
  unfold isDls at h
  split at h
  · rename_i e
    obtain ⟨v, e1, iv⟩ := G.val e
    cases iv with
    | dls hb =>
      have B := G.box
      unfold BoxOk at B
      rw [hb] at B
      exact ⟨_, _, hb, e1, B⟩
  · cases h
def b3 (ks : List Str) : Bx := ⟨[], 0, ks, [], [], [[], [], []]⟩
def kDls (i : Nat) (ks : List Str) (kk : Fs) : Fs := fun ρ b => outBack b (kk ((cleanE ρ).set i (.val .dls)) (b3 ks))
theorem pb_dls3 (i : Nat) {t k1 k2 k3 : Str} {i1 i2 i3 : Nat} {q1 q2 q3 l1 l2 l3 dpos tpos : Pos} (hnd : X.N.Nodup) (hk12 : k1 ≠ k2) (hk13 : k1 ≠ k3) (hk23 : k2 ≠ k3)
    (h : ∀ a ls Hs' H0s', PB X (mkG g.k.K (.dls a ls) g.k.z Hs' H0s') W ss kk) (hNi : X.N[i]? = some t := by rfl) (hx : Loc X.env.scope t := by first | exact Or.inl rfl | exact Or.inr rfl)
    (hs : swapsWith (.Dict [some (.Constant (.str k1) i1 q1), some (.Constant (.str k2) i2 q2), some (.Constant (.str k3) i3 q3)] [.List [] l1, .List [] l2, .List [] l3] dpos) (some (.Name t tpos)) pos.line X.env = pure false := by rfl)
    (hf : X.fn t = true ∨ X.env.scope.names.lookup t = some .local := by first | exact .inl rfl | exact .inr rfl | assumption) :
    PB X g W (.Assign [.Name t tpos] (.Dict [some (.Constant (.str k1) i1 q1), some (.Constant (.str k2) i2 q2), some (.Constant (.str k3) i3 q3)] [.List [] l1, .List [] l2, .List [] l3] dpos) pos :: ss) (kDls i [k1, k2, k3] kk) := by
  have hrest : PSs X ss (fun Dd σ H => ∃ a ls Hs' H0s', TB (mkG g.k.K (.dls a ls) g.k.z Hs' H0s') W kk Dd σ H) := ⟨fun pins s σ H D I ⟨a, ls, Hs', H0s', z⟩ => (h a ls Hs' H0s').run pins s σ H D I z⟩
  refine pss_imp (pss_cons (ps_set hnd hNi hx (pe_disp (pps_cons pe_str (pe_lst pa_nil) (pps_cons pe_str (pe_lst pa_nil) (pps_cons pe_str (pe_lst pa_nil) pps_nil))) rfl rfl (by simp) (by simp)) hs hf) hrest) ?_
  rintro Dd σ H ⟨ρ, b, H0, G, F⟩
  intro a ha
  refine ⟨by decide, fun p1 h1 => ⟨by decide, fun p2 h2 => ⟨by decide, fun p3 h3 => ?_⟩⟩⟩
  have n1 : a ≠ p1 := fun q => by subst q; rw [upd_same] at h1; cases h1
  rw [upd_ne (Ne.symm n1)] at h1
  have n2 : p1 ≠ p2 := fun q => by subst q; rw [upd_same] at h2; cases h2
  have n2' : a ≠ p2 := fun q => by subst q; rw [upd_ne n1, upd_same] at h2; cases h2
  rw [upd_ne (Ne.symm n2), upd_ne (Ne.symm n2')] at h2
  have n3 : p2 ≠ p3 := fun q => by subst q; rw [upd_same] at h3; cases h3
  have n3' : p1 ≠ p3 := fun q => by subst q; rw [upd_ne n2, upd_same] at h3; cases h3
  have n3'' : a ≠ p3 := fun q => by subst q; rw [upd_ne n2', upd_ne n1, upd_same] at h3; cases h3
  rw [upd_ne (Ne.symm n3), upd_ne (Ne.symm n3'), upd_ne (Ne.symm n3'')] at h3
  refine ⟨by rw [upd_ne n3'', upd_ne n2', upd_ne n1, upd_same], [(.inr k1, .ref p1), (.inr k2, .ref p2), (.inr k3, .ref p3)], rfl, by simp, ?_⟩
  have em : mergeK [] [(Sum.inr k1, V.ref p1), (.inr k2, .ref p2), (.inr k3, .ref p3)] = [(.inr k1, V.ref p1), (.inr k2, .ref p2), (.inr k3, .ref p3)] := by
    simp [mergeK, putK, hk12, hk13, hk23]
  rw [em]
  let H2 := L2.upd (L2.upd (L2.upd (L2.upd (L2.upd H a (.dK [])) p1 (.lst [])) p2 (.lst [])) p3 (.lst [])) a (.dK [(.inr k1, V.ref p1), (.inr k2, .ref p2), (.inr k3, .ref p3)])
  have kp : ∀ c u, H c = some u → H2 c = some u := fun c u q => by
    show L2.upd _ _ _ c = _
    rw [upd_ne (ne_of_none q ha), upd_ne (ne_of_none q h3), upd_ne (ne_of_none q h2), upd_ne (ne_of_none q h1), upd_ne (ne_of_none q ha)]; exact q
  have T : Tr .no H0 H H0 H2 := ⟨Same.refl _, fun c u q => kp c u (G.sub c u q), fun c u q _ => kp c u q, fun c n => by
    cases hc : H c with
    | none => exact absurd hc n
    | some u => rw [kp c u hc]; simp, fun c q _ _ => q⟩
  have z0 : ∀ {c}, H c = none → g.k.z c = false := fun q => G.zok.new q
  have B' : BoxOk ⟨g.k.K, .dls a [p1, p2, p3], g.k.z⟩ H0 H2 (b3 [k1, k2, k3]) := by
    refine ⟨G.sub.free ha, by simp [n1, n2', n3''], by simp [n2, n3, n3'], rfl, by show L2.upd _ _ _ a = _; rw [upd_same]; rfl, ⟨z0 h1, G.sub.free h1, [], ?_, .nil⟩, ⟨z0 h2, G.sub.free h2, [], ?_, .nil⟩, ⟨z0 h3, G.sub.free h3, [], ?_, .nil⟩, trivial⟩
    · show L2.upd _ _ _ p1 = _
      rw [upd_ne (Ne.symm n1), upd_ne n3', upd_ne n2, upd_same]
    · show L2.upd _ _ _ p2 = _
      rw [upd_ne (Ne.symm n2'), upd_ne n3, upd_same]
    · show L2.upd _ _ _ p3 = _
      rw [upd_ne (Ne.symm n3''), upd_same]
  have fr : ∀ c, InB (.dls a [p1, p2, p3]) c → H c = none := by
    rintro c (rfl | i)
    · exact ha
    · simp only [List.mem_cons, List.not_mem_nil, or_false] at i
      rcases i with rfl | rfl | rfl <;> assumption
  refine ⟨a, [p1, p2, p3], H2, H0, (cleanE ρ).set i (.val .dls), b3 [k1, k2, k3], H0, (G.rebox T B').setV (.dls rfl), ?_⟩
  exact FinS.rebox G T fr F
end
end Fw
set_option Elab.async false
set_option linter.all false
set_option maxRecDepth 100000
set_option maxHeartbeats 1000000
/-! Fw13: reading and changing a dict of lists; the dict that stands. -/
namespace Fw
open PySem PySem.Spec PyProof.Rows L2

def getL : List Str → List (List D) → Str → Option (List D)
  | f :: fs, ds :: dss, key => if f = key then some ds else getL fs dss key
  | _, _, _ => none
def appL : List Str → List (List D) → Str → D → List (List D)
  | f :: fs, ds :: dss, key, d => if f = key then (ds ++ [d]) :: dss else ds :: appL fs dss key d
  | _, dss, _, _ => dss
theorem DL.out {k : Kx} {H0 H : Hp} {l : Addr} {o : HO} : ∀ {ls : List Addr} {dss : List (List D)}, DL k H0 H ls dss → l ∉ ls → DL k H0 (L2.upd H l o) ls dss := fun {ls dss} h n =>
  h.move (Same.refl _) (fun c hc => (h.there hc).1) fun c u hc e => by rw [upd_ne (fun q => by subst q; exact n hc)]; exact e
theorem DL.pick {k : Kx} {H0 H : Hp} {key : Str} {ds : List D} : ∀ {fs : List Str} {ls : List Addr} {dss : List (List D)}, DL k H0 H ls dss → ls.Nodup → fs.length = ls.length → getL fs dss key = some ds →
    ∃ l vs, l ∈ ls ∧ valV (kvD fs (ls.map V.ref)) (.inr key) = some (.ref l) ∧ H0 l = none ∧ H l = some (.lst vs) ∧ IsL k H0 ds vs ∧ ∀ d v, Is k H0 d v → DL k H0 (L2.upd H l (.lst (vs ++ [v]))) ls (appL fs dss key d)
  | [], _, _, _, _, _, h => by cases h
  | f :: fs, [], _, _, _, hl, _ => by cases hl
  | f :: fs, l :: ls, [], h, _, _, _ => h.elim
  | f :: fs, l :: ls, es :: dss, ⟨⟨hz, h0, vs, h1, h2⟩, r⟩, nd, hl, h => by
    obtain ⟨n1, n2⟩ := List.nodup_cons.mp nd
    unfold getL at h
    by_cases hf : f = key
    · rw [if_pos hf] at h
      cases h
      refine ⟨l, vs, List.mem_cons_self, valV_pos (by show Sum.inr f = Sum.inr key; rw [hf]), h0, h1, h2, fun d v iv => ?_⟩
      unfold appL
      rw [if_pos hf]
      exact ⟨⟨hz, h0, _, upd_same, h2.app (.cons iv .nil)⟩, r.out n1⟩
    · rw [if_neg hf] at h
      obtain ⟨l', vs', m, e1, g0, g1, g2, g3⟩ := DL.pick r n2 (by simpa using hl) h
      refine ⟨l', vs', List.mem_cons_of_mem _ m, ?_, g0, g1, g2, fun d v iv => ?_⟩
      · rw [show kvD (f :: fs) ((l :: ls).map V.ref) = (Sum.inr f, V.ref l) :: kvD fs (ls.map V.ref) from rfl, valV_neg (by show ¬ Sum.inr f = Sum.inr key; intro q; cases q; exact hf rfl)]
        exact e1
      · unfold appL
        rw [if_neg hf]
        have ne : l ≠ l' := fun q => by subst q; exact n1 m
        exact ⟨⟨hz, h0, vs, by rw [upd_ne ne]; exact h1, h2⟩, g3 d v iv⟩
theorem appL_len : ∀ {fs : List Str} {dss : List (List D)} {key : Str} {d : D}, (appL fs dss key d).length = dss.length
  | [], _, _, _ => rfl
  | _ :: _, [], _, _ => rfl
  | f :: fs, ds :: dss, key, d => by
    unfold appL
    split
    · rfl
    · simp [appL_len (fs := fs)]

def xDNil (neg : Bool) (i : Nat) (key : Str) : Fx D := fun ρ b => if isDls ρ i then (match getL b.fs b.ls key with
  | some ds => (match toPys ds with
    | some ps => if SeqAt.shaped (.list ps) = true then .ok (.bl (neg != ds.isEmpty)) b else .bad
    | none => .bad)
  | none => .bad) else .bad
def xDLen (i : Nat) (key : Str) : Fx D := fun ρ b => if isDls ρ i then (match getL b.fs b.ls key with
  | some ds => .ok (.int ds.length) b
  | none => .bad) else .bad
def kDApp (i : Nat) (fk fe : Fx D) : Fs := fun ρ b => if isDls ρ i = true then (fk ρ b).out fun kd b1 => match kd with
  | .str key => (match getL b1.fs b1.ls key with
    | some _ => (fe ρ b1).out fun d b2 => (match getL b2.fs b2.ls key with
      | some ds => if b2.fs = b1.fs ∧ ds.length < 100000 then .nx ρ { b2 with ls := appL b2.fs b2.ls key d } else .bad
      | none => .bad)
    | none => .bad)
  | _ => .bad
  else .bad
theorem eqv_nil : ∀ ps : List PyData, PyData.eqv (.list ps) (.list []) = ps.isEmpty
  | [] => rfl
  | _ :: _ => rfl
theorem toPys_empty : ∀ {ds : List D} {ps : List PyData}, toPys ds = some ps → ps.isEmpty = ds.isEmpty
  | [], _, h => by cases h; rfl
  | d :: ds, ps, h => by
    have h : ((toPy d).bind fun x => (toPys ds).map fun xs => x :: xs) = some ps := h
    cases hq : toPy d with
    | none => rw [hq] at h; cases h
    | some p =>
      rw [hq] at h
      cases hr : toPys ds with
      | none => rw [hr] at h; cases h
      | some qs => rw [hr] at h; cases h; rfl
section
variable {X : Cx} {g : Cfg} {W : WX} {e : Expr} {es : List Expr} {f h : Fx D} {x key : Str} {pos p p1 p2 p3 apos cpos : Pos} {ss : List Stmt} {kk : Fs} {j : Nat}
/-- found[key], the list there -/
theorem dls_get {ρ : En} {b : Bx} {σ : L2.St} {H H0 : Hp} {i : Nat} {ds : List D} (G : Good g ρ b σ H H0) (hi : isDls ρ i = true) (h : getL b.fs b.ls key = some ds) :
    ∃ a l vs, σ[i]? = some (some (.ref a)) ∧ DGet H a (.str key) (some (.ref l)) ∧ InB g.bx l ∧ H0 l = none ∧ H l = some (.lst vs) ∧ IsL g.k H0 ds vs ∧ (∃ ls, g.bx = .dls a ls ∧ valV (kvD b.fs (ls.map V.ref)) (.inr key) = some (.ref l)) ∧ ∀ d v, Is g.k H0 d v → BoxOk g.k H0 (L2.upd H l (.lst (vs ++ [v]))) { b with ls := appL b.fs b.ls key d } := by
  obtain ⟨a, ls, e1, e2, e3, e4, e5, e6, e7, e8⟩ := G.dls hi
  obtain ⟨l, vs, m, v1, h0, h1, h2, h3⟩ := e8.pick e5 e6 h
  refine ⟨a, l, vs, e2, ?_, by rw [e1]; exact .inr m, h0, h1, h2, ⟨ls, e1, v1⟩, fun d v iv => ?_⟩
  · have q := DGet.k (k := Sum.inr key) e7
    rw [v1] at q
    exact q
  · unfold BoxOk
    rw [show g.k.bx = _ from e1]
    have ne : a ≠ l := fun q => by subst q; exact e4 m
    exact ⟨e3, e4, e5, e6, by rw [upd_ne ne]; exact e7, h3 d v iv⟩
theorem tx_dNil {neg : Bool} (i : Nat) (hK : X.K = g.k.K) {r : R2} (hr : ∀ x y H Q, (∃ d c, Dp X.K H x d ∧ Dp X.K H y c ∧ SeqAt.shaped d = true ∧ SeqAt.shaped c = true ∧ Q (.bl (neg != PyData.eqv d c)) H) → r x y H Q) {σ : L2.St} {H : Hp} {Q : VK}
    (zz : TX g W (xDNil neg i key) σ H Q) : tOp r (tDGet (tVar i) (tC (.str key))) (tLst tNil) σ H Q := by
  obtain ⟨ρ, b, H0, G, F⟩ := zz
  unfold xDNil at F
  split at F
  · rename_i hb
    cases hg : getL b.fs b.ls key with
    | none => simp only [hg] at F; exact F.elim
    | some ds =>
      simp only [hg] at F
      cases hp : toPys ds with
      | none => simp only [hp] at F; exact F.elim
      | some ps =>
        simp only [hp] at F
        split at F
        · rename_i hs
          obtain ⟨a, l, vs, e1, e2, e3, e4, e5, e6, _, _⟩ := dls_get G hb hg
          refine ⟨_, e1, a, _, rfl, e2, by decide, fun q hq => ?_⟩
          have ta := Tr.allocO (o := .lst []) G.sub hq
          refine hr _ _ _ _ ⟨.list ps, .list [], .lst (.inl (.inl (by rw [upd_ne (ne_of_none e5 hq)]; exact e5))) ?_, .lst (.inl (.inl upd_same)) .nil, hs, by decide, ?_⟩
          · rw [hK]; exact dps_of (e6.mono ta.sub) hp
          · rw [eqv_nil, toPys_empty hp]
            exact F H0 _ ta.weak (G.box.keep ta) _ (.bl _)
        · exact F.elim
  · exact F.elim
theorem plainC : NoSl (.Constant (.str key) j pos) := fun _ _ => rfl
theorem px_dEq (i : Nat) (hK : X.K = g.k.K) (hu : X.A.units + 64 < cLine) (hN : X.N[i]? = some x := by rfl) (hv : Vis X.env.scope x := by first | exact Or.inl rfl | exact Or.inr (Or.inl rfl) | exact Or.inr (Or.inr rfl)) (hd : (x == ("__debug__" : Str)) = false := by decide)
    (hcd : (x == ("__classdict__" : Str)) = false := by decide) : PQ X g W (.Compare (.Subscript (.Name x p) (.Constant (.str key) j p1) p2) [.Eq] [.List [] p3] pos) (xT (xDNil false i key)) :=
  pt_imp (pt_cmpR (op_eqD hu) (pe_dget (by omega) (pe_var hN hv hd hcd) pe_str plainC) (pe_lst pa_nil) (nomark _)) fun _ _ _ => tt_test fun _ _ _ => tx_dNil i hK fun _ _ _ _ ⟨d, c, h1, h2, h3, h4, q⟩ => ⟨d, c, h1, h2, h3, h4, by rw [Bool.false_bne] at q; exact q⟩
theorem px_dNe (i : Nat) (hK : X.K = g.k.K) (hu : X.A.units + 64 < cLine) (hN : X.N[i]? = some x := by rfl) (hv : Vis X.env.scope x := by first | exact Or.inl rfl | exact Or.inr (Or.inl rfl) | exact Or.inr (Or.inr rfl)) (hd : (x == ("__debug__" : Str)) = false := by decide)
    (hcd : (x == ("__classdict__" : Str)) = false := by decide) : PQ X g W (.Compare (.Subscript (.Name x p) (.Constant (.str key) j p1) p2) [.NotEq] [.List [] p3] pos) (xT (xDNil true i key)) :=
  pt_imp (pt_cmpR (op_neD hu) (pe_dget (by omega) (pe_var hN hv hd hcd) pe_str plainC) (pe_lst pa_nil) (nomark _)) fun _ _ _ => tt_test fun _ _ _ => tx_dNil i hK fun _ _ _ _ ⟨d, c, h1, h2, h3, h4, q⟩ => ⟨d, c, h1, h2, h3, h4, by rw [Bool.true_bne] at q; exact q⟩
theorem px_dLen (i : Nat) (hu : X.A.units + 64 < cLine) (hg : Gl X "len") (hm : X.mg "len" = none) (hN : X.N[i]? = some x := by rfl) (hv : Vis X.env.scope x := by first | exact Or.inl rfl | exact Or.inr (Or.inl rfl) | exact Or.inr (Or.inr rfl)) (hd : (x == ("__debug__" : Str)) = false := by decide)
    (hcd : (x == ("__classdict__" : Str)) = false := by decide) (he : starEach [.Subscript (.Name x p) (.Constant (.str key) j p1) p2] X.env = (false, eval (.Subscript (.Name x p) (.Constant (.str key) j p1) p2) X.env) :: starEach [] X.env := by rfl) (hpl : (backTo pos (starEach [] X.env)).any (·.1) = false := by rfl) :
    PX X g W (.Call (.Name "len" p3) [.Subscript (.Name x p) (.Constant (.str key) j p1) p2] [] pos) (xDLen i key) := by
  refine pe_imp (pe_callB call_len hg hm PySem.boot_len (pa_cons (pe_dget (by omega) (pe_var hN hv hd hcd) pe_str plainC) pa_nil he) (by decide) (by decide) he hpl) ?_
  rintro σ H Q ⟨ρ, b, H0, G, F⟩
  unfold xDLen at F
  split at F
  · rename_i hb
    cases hg2 : getL b.fs b.ls key with
    | none => simp only [hg2] at F; exact F.elim
    | some ds =>
      simp only [hg2] at F
      obtain ⟨a, l, vs, e1, e2, e3, e4, e5, e6, _, _⟩ := dls_get G hb hg2
      exact ⟨_, e1, a, _, rfl, e2, .ref l, ds.length, rfl, .inl ⟨vs, .inl (.inl e5), e6.length⟩, F H0 H (Tr.refl G.sub) G.box _ (.int _)⟩
  · exact F.elim
theorem p1_dApp (i : Nat) {k0 : Expr} (hu : X.A.units + 64 < cLine) (hk0 : NoSl k0) (hkx : PX X g W k0 f) (ha : PX X g W e h) (hN : X.N[i]? = some x := by rfl) (hv : Vis X.env.scope x := by first | exact Or.inl rfl | exact Or.inr (Or.inl rfl) | exact Or.inr (Or.inr rfl)) (hd : (x == ("__debug__" : Str)) = false := by decide)
    (hcd : (x == ("__classdict__" : Str)) = false := by decide)
    (hbase : attributeBase (.Subscript (.Name x p) k0 p1) "append" X.env (eval (.Subscript (.Name x p) k0 p1) X.env) = eval (.Subscript (.Name x p) k0 p1) X.env := by rfl)
    (hfew : ((backTo p2 (starEach [e] X.env)).all (fun x => !x.1) && (backToKw p2 (keywordEach [] X.env)).all (fun x => x.1.isSome) && decide (([e] : List Expr).length + ([] : List Keyword).length + (if ([] : List Keyword).isEmpty then 0 else 1) < 30)) = true := by rfl)
    (hline : (apos.endLine == p2.line) = true := by rfl) (hs : starEach [e] X.env = (false, eval e X.env) :: starEach [] X.env := by rfl) (hplain : (backTo p2 (starEach [] X.env)).any (·.1) = false := by rfl)
    (hsw : swapsWith (.Call (.Attribute (.Subscript (.Name x p) k0 p1) "append" apos) [e] [] p2) none pos.line X.env = pure false := by rfl) :
    P1 X g W (.Expr (.Call (.Attribute (.Subscript (.Name x p) k0 p1) "append" apos) [e] [] p2) pos) (kDApp i f h) := by
  refine ps_imp (ps_expr (pe_bm PySem.F.plainAttrs_list PySem.F.slot_list_append PySem.F.type_list_append mt_append (pe_dget (by omega) (pe_var hN hv hd hcd) hkx hk0) (pa_cons ha pa_nil hs) hbase hfew hline hs hplain) hsw) ?_
  rintro Dd σ H ⟨ρ, b, H0, G, F⟩
  -- the name's value stands whatever comes between
  have hat : ∀ {b1 : Bx} {H01 H1 : Hp}, Good g ρ b1 σ H1 H01 → isDls ρ i = true → ∃ a ls, g.bx = .dls a ls ∧ σ[i]? = some (some (.ref a)) := fun G1 hb => by
    obtain ⟨a, ls, e1, e2, _⟩ := G1.dls hb
    exact ⟨a, ls, e1, e2⟩
  unfold kDApp at F
  split at F
  · rename_i hb
    obtain ⟨a, ls, e1, e2⟩ := hat G hb
    refine ⟨_, e2, ρ, b, H0, G, (fin_out G F).mono fun kd b1 H01 H1 t1 B1 F1 kv ik => ?_⟩
    have G1 := G.step t1 B1
    cases ik with
    | str key =>
      cases hg1 : getL b1.fs b1.ls key with
      | none => simp only [hg1] at F1; exact F1.elim
      | some ds1 =>
        simp only [hg1] at F1
        obtain ⟨a1, l, vs, g1, g2, g3, g4, g5, g6, ⟨la, ga, gv⟩, _⟩ := dls_get G1 hb hg1
        refine ⟨a1, _, by rw [e2] at g1; cases g1; rfl, g2, .inl ⟨rfl, vs, .inl (.inl g5)⟩, ρ, b1, H01, G1, (fin_out G1 F1).mono fun d b2 H02 H2 t2 B2 F2 v iv => ?_⟩
        have G2 := G1.step t2 B2
        cases hg3 : getL b2.fs b2.ls key with
        | none => simp only [hg3] at F2; exact F2.elim
        | some ds =>
          simp only [hg3] at F2
          split at F2
          · rename_i hz
            obtain ⟨a2, l2, vs2, q1, q2, q3, q4, q5, q6, ⟨lb, gb, gw⟩, q7⟩ := dls_get G2 hb hg3
            have el : l2 = l := by
              rw [ga] at gb
              cases gb
              rw [hz.1, gv] at gw
              cases gw
              rfl
            subst el
            exact ⟨l2, vs2, v, rfl, rfl, q5, by rw [← q6.length]; exact Nat.lt_of_lt_of_le hz.2 (by decide), F2 _ _ _ (G2.inBox q3 (q7 d v iv)) (Same.refl _)⟩
          · exact F2.elim
    | _ => exact F1.elim
  · exact F.elim
end
/-! ### data that lean on no marked list -/
mutual
def pureD : D → Bool
  | .lst z xs => !z && pureL xs
  | .tup xs => pureL xs
  | .ins _ _ xs => pureL xs
  | .non => true
  | .bl _ => true
  | .int _ => true
  | .str _ => true
  | .adr _ => true
  | _ => false
def pureL : List D → Bool
  | [] => true
  | d :: ds => pureD d && pureL ds
end
open Classical in
noncomputable def cutH (H : Hp) (M : Addr → Prop) : Hp := fun c => if M c then none else H c
theorem cutH_in {H : Hp} {M : Addr → Prop} {c : Addr} (h : M c) : cutH H M c = none := if_pos h
theorem cutH_out {H : Hp} {M : Addr → Prop} {c : Addr} (h : ¬ M c) : cutH H M c = H c := if_neg h
section
variable {K : PySem.W.Frag} {bx bx' : Bk} {z z' : Addr → Bool} {H : Hp} {M : Addr → Prop}
mutual
theorem Is.cut (hM : ∀ c, M c → (∃ xs, H c = some (.lst xs) ∧ z' c = true) ∨ ∃ kv, H c = some (.dK kv)) (hz : ∀ c, z' c = false → z c = false) : ∀ {d : D} {v : V}, pureD d = true → Is ⟨K, bx', z'⟩ H d v → Is ⟨K, bx, z⟩ (cutH H M) d v
  | _, _, _, .non => .non
  | _, _, _, .bl b => .bl b
  | _, _, _, .int b => .int b
  | _, _, _, .str b => .str b
  | _, _, c, .tup (a := a) h l => by
    refine .tup ?_ (IsL.cut hM hz c l)
    rcases h with h | h
    · have nm : ¬ M a := fun m => by
        rcases hM a m with ⟨xs, e, _⟩ | ⟨kv, e⟩ <;> rcases h with h | ⟨o, h⟩ <;> (rw [e] at h; cases h)
      rcases h with h | ⟨o, h⟩
      · exact .inl (.inl (by rw [cutH_out nm]; exact h))
      · exact .inl (.inr ⟨o, by rw [cutH_out nm]; exact h⟩)
    · exact .inr h
  | _, _, c, .lst (a := a) (z := false) h q l => by
    have c : (true && pureL _) = true := c
    have c := Bool.and_eq_true_iff.mp c
    have q : z' a = false := q
    have nm : ¬ M a := fun m => by
      rcases hM a m with ⟨xs, e, e2⟩ | ⟨kv, e⟩
      · rw [q] at e2; cases e2
      · rw [e] at h; cases h
    exact .lst (by rw [cutH_out nm]; exact h) (hz a q) (IsL.cut hM hz c.2 l)
  | _, _, c, .ins (a := a) h n l => by
    have nm : ¬ M a := fun m => by
      rcases hM a m with ⟨xs, e, _⟩ | ⟨kv, e⟩ <;> (rw [e] at h; cases h)
    exact .ins (by rw [cutH_out nm]; exact h) n (IsL.cut hM hz c l)
  | _, _, c, .lst (z := true) _ _ _ => nomatch c
  | _, _, _, .adr a => .adr a
  | _, _, c, .sql _ _ => nomatch c
  | _, _, c, .box h => nomatch c
  | _, _, c, .slf h => nomatch c
  | _, _, c, .mem h => nomatch c
  | _, _, c, .dls h => nomatch c
  | _, _, c, .dct _ _ _ => nomatch c
theorem IsL.cut (hM : ∀ c, M c → (∃ xs, H c = some (.lst xs) ∧ z' c = true) ∨ ∃ kv, H c = some (.dK kv)) (hz : ∀ c, z' c = false → z c = false) : ∀ {ds : List D} {vs : List V}, pureL ds = true → IsL ⟨K, bx', z'⟩ H ds vs → IsL ⟨K, bx, z⟩ (cutH H M) ds vs
  | _, _, _, .nil => .nil
  | _, _, c, .cons h l => by
    have c := Bool.and_eq_true_iff.mp c
    exact .cons (Is.cut hM hz c.1 h) (IsL.cut hM hz c.2 l)
end
end

/-! ### the dict that stands, behind all changes -/
def xUnD (i : Nat) (f : Fx D) : Fx D := fun ρ b => if isDls ρ i = true ∧ cleanL (b.ls.map (.lst true)) = true then (match f ((ρ.map fun _ => Sl.no).set i (.val (.dct b.fs (b.ls.map (.lst true))))) bx0 with
  | .ok d _ => if pureD d = true then .ok d b else .bad
  | _ => .bad) else .bad
def frzL (H0 H : Hp) (ls : List Addr) : Hp := fun c => if c ∈ ls then H c else H0 c
section
variable {X : Cx} {g : Cfg} {W : WX} {e : Expr} {es : List Expr} {f h : Fx D} {x key : Str} {pos p p1 p2 p3 apos cpos : Pos} {j : Nat}
mutual
/-- other marks, the same where the data stand -/
theorem Is.retag {K : PySem.W.Frag} {bx : Bk} {z z' : Addr → Bool} {H : Hp} (hz : ∀ c, H c ≠ none → z' c = z c) : ∀ {d : D} {v : V}, Is ⟨K, bx, z⟩ H d v → Is ⟨K, bx, z'⟩ H d v
  | _, _, .non => .non
  | _, _, .bl b => .bl b
  | _, _, .int b => .int b
  | _, _, .str b => .str b
  | _, _, .tup h l => .tup h (IsL.retag hz l)
  | _, _, .lst h q l => .lst h (by show z' _ = _; rw [hz _ (by rw [h]; simp)]; exact q) (IsL.retag hz l)
  | _, _, .ins h n l => .ins h n (IsL.retag hz l)
  | _, _, .adr a => .adr a
  | _, _, .sql h l => .sql h (IsL.retag hz l)
  | _, _, .box h => .box h
  | _, _, .slf h => .slf h
  | _, _, .mem h => .mem h
  | _, _, .dls h => .dls h
  | _, _, .dct h n l => .dct h n (IsL.retag hz l)
theorem IsL.retag {K : PySem.W.Frag} {bx : Bk} {z z' : Addr → Bool} {H : Hp} (hz : ∀ c, H c ≠ none → z' c = z c) : ∀ {ds : List D} {vs : List V}, IsL ⟨K, bx, z⟩ H ds vs → IsL ⟨K, bx, z'⟩ H ds vs
  | _, _, .nil => .nil
  | _, _, .cons h l => .cons (Is.retag hz h) (IsL.retag hz l)
end
theorem DL.all {K : PySem.W.Frag} {bx bx' : Bk} {z z' : Addr → Bool} {H0 H H1 : Hp} (e : Same H0 H1) (hz : ∀ c, H0 c ≠ none → z' c = z c) : ∀ {ls : List Addr} {dss : List (List D)}, DL ⟨K, bx, z⟩ H0 H ls dss → cleanL (dss.map (.lst true)) = true → (∀ l, l ∈ ls → z' l = true) →
    (∀ l o, l ∈ ls → H l = some o → H1 l = some o) → IsL ⟨K, bx', z'⟩ H1 (dss.map (.lst true)) (ls.map V.ref)
  | [], [], _, _, _, _ => .nil
  | l :: ls, ds :: dss, ⟨⟨_, h0, vs, h1, h2⟩, r⟩, c, m, q => by
    have c : (cleanL ds && cleanL (dss.map (.lst true))) = true := c
    have c := Bool.and_eq_true_iff.mp c
    exact .cons (.lst (q l _ List.mem_cons_self h1) (m l List.mem_cons_self) (((h2.retag hz).mono e).rebox c.1)) (DL.all e hz r c.2 (fun l hl => m l (List.mem_cons_of_mem _ hl)) fun l o hl => q l o (List.mem_cons_of_mem _ hl))
  | [], _ :: _, h, _, _, _ => h.elim
  | _ :: _, [], h, _, _, _ => h.elim
theorem DL.isLst {k : Kx} {H0 H : Hp} {c : Addr} : ∀ {ls : List Addr} {dss : List (List D)}, DL k H0 H ls dss → c ∈ ls → ∃ vs, H c = some (.lst vs)
  | _ :: _, _ :: _, ⟨⟨_, _, vs, h1, _⟩, r⟩, m => by
    rcases List.mem_cons.mp m with rfl | m
    · exact ⟨vs, h1⟩
    · exact DL.isLst r m
  | [], _, _, m => nomatch m
  | _ :: _, [], h, _ => h.elim
theorem px_unD (i : Nat) (h : ∀ z' Hs' H0s', PX X (mkG g.k.K .no z' Hs' H0s') W e f) : PX X g W e (xUnD i f) := by
  have hrest : PE X e (fun σ H Q => ∃ z' Hs' H0s', TX (mkG g.k.K .no z' Hs' H0s') W f σ H Q) := ⟨fun pins s σ H Q I ⟨z', Hs', H0s', zz⟩ => (h z' Hs' H0s').run pins s σ H Q I zz⟩
  refine pe_imp hrest ?_
  rintro σ H Q ⟨ρ, b, H0, G, F⟩
  unfold xUnD at F
  split at F
  · rename_i hb
    obtain ⟨hb, hcl⟩ := hb
    obtain ⟨a, ls, e1, e2, e3, e4, e5, e6, e7, e8⟩ := G.dls hb
    classical
    let M : Addr → Prop := fun c => c ∈ a :: ls
    let z' : Addr → Bool := fun c => g.k.z c || decide (c ∈ ls)
    let H1 : Hp := frzL H0 H (a :: ls)
    have inM : ∀ {c}, c ∈ a :: ls → H1 c = H c := fun hc => if_pos hc
    have outM : ∀ {c}, c ∉ a :: ls → H1 c = H0 c := fun hc => if_neg hc
    have h0M : ∀ {c}, c ∈ a :: ls → H0 c = none := fun hc => by
      rcases List.mem_cons.mp hc with rfl | hc
      · exact e3
      · exact (e8.there hc).1
    have s01 : Same H0 H1 := fun c u q => by
      have hc : c ∉ a :: ls := fun hc => by rw [h0M hc] at q; cases q
      rw [outM hc]; exact q
    have s1 : Same H1 H := fun c u q => by
      by_cases hc : c ∈ a :: ls
      · rw [inM hc] at q; exact q
      · rw [outM hc] at q; exact G.sub c u q
    have hz0 : ∀ c, H0 c ≠ none → z' c = g.k.z c := fun c n => by
      have hc : c ∉ ls := fun hc => n (h0M (List.mem_cons_of_mem _ hc))
      simp [z', hc]
    have id : Is ⟨g.k.K, .no, z'⟩ H1 (.dct b.fs (b.ls.map (.lst true))) (.ref a) := by
      refine .dct (vs := ls.map V.ref) ?_ (by rw [List.length_map]; exact e6) (DL.all (bx := g.k.bx) (z := g.k.z) s01 hz0 e8 hcl (fun l hl => by simp [z', hl]) fun l o hl q => ?_)
      · rw [inM List.mem_cons_self]; exact e7
      · rw [inM (List.mem_cons_of_mem _ hl)]; exact q
    have zo : ZOk ⟨g.k.K, .no, z'⟩ H := fun c q => by
      have q : (g.k.z c || decide (c ∈ ls)) = true := q
      rcases Bool.or_eq_true_iff.mp q with q | q
      · exact G.zok c q
      · exact (e8.there (of_decide_eq_true q)).2
    let ρ1 : En := ρ.map fun _ => Sl.no
    have G0 : Good (mkG g.k.K .no z' H H1) ρ1 bx0 σ H H1 := by
      have no : ∀ {j s}, ρ1[j]? = some s → s = Sl.no := fun {j s} q => by
        rw [List.getElem?_map] at q
        cases hr : ρ[j]? with
        | none => rw [hr] at q; cases q
        | some s' => rw [hr] at q; exact (Option.some.inj q).symm
      refine ⟨Tr.refl s1, by rw [List.length_map]; exact G.len, fun j => ?_, fun j j' l o => ?_, fun j l o => ?_, trivial, fun _ zz => zz.elim, zo⟩
      · cases hr : ρ1[j]? with
        | none => trivial
        | some s => rw [no hr]; trivial
      · obtain ⟨⟨ds, q⟩, _⟩ := o; cases no q
      · obtain ⟨⟨ds, q⟩, _⟩ := o; cases no q
    have G1 : Good (mkG g.k.K .no z' H H1) (ρ1.set i (.val (.dct b.fs (b.ls.map (.lst true))))) bx0 σ H H1 := by
      have q := G0.setV (i := i) (v := .ref a) id
      have es : σ.set i (some (V.ref a)) = σ := by
        apply List.ext_getElem?
        intro j
        rw [set_get]
        split
        · rename_i hj; rw [← hj.1, e2]
        · rfl
      rw [es] at q
      exact q
    refine ⟨z', H, H1, _, bx0, H1, G1, ?_⟩
    cases hf : f (ρ1.set i (.val (.dct b.fs (b.ls.map (.lst true))))) bx0 with
    | bad => simp only [ρ1] at hf; simp only [hf] at F; exact F.elim
    | exc xx bb => simp only [ρ1] at hf; simp only [hf] at F; exact F.elim
    | ok d bb =>
      simp only [ρ1] at hf
      simp only [hf] at F
      split at F
      · rename_i hp
        intro H0z Hz t _ v iv
        have hM : ∀ c, M c → (∃ xs, H0z c = some (.lst xs) ∧ z' c = true) ∨ ∃ kv, H0z c = some (.dK kv) := fun c m => by
          rcases List.mem_cons.mp m with rfl | m
          · exact .inr ⟨_, t.ext _ _ (by rw [inM List.mem_cons_self]; exact e7)⟩
          · skip
            obtain ⟨vs, hv⟩ := e8.isLst m
            exact .inl ⟨vs, t.ext _ _ (by rw [inM (List.mem_cons_of_mem _ m)]; exact hv), by simp [z', m]⟩
        have h0z : Same H0 (cutH H0z M) := fun c u q => by
          have hc : ¬ M c := fun hc => by rw [h0M hc] at q; cases q
          rw [cutH_out hc]
          exact t.ext _ _ (s01 _ _ q)
        have kp : ∀ c u, H c = some u → Hz c = some u := fun c u q => t.keep c u q fun zz => zz
        refine F (cutH H0z M) Hz ⟨h0z, fun c u q => ?_, fun c u q _ => kp c u q, t.there, fun c q n ni => ?_⟩ (G.box.move h0z (fun c i => ?_) fun c u _ q => kp c u q) v (iv.cut hM (fun c q => ?_) hp)
        · by_cases hc : M c
          · rw [cutH_in hc] at q; cases q
          · rw [cutH_out hc] at q; exact t.sub c u q
        · have hc : ¬ M c := fun hc => ni (by rw [e1]; rcases List.mem_cons.mp hc with rfl | hc; exact .inl rfl; exact .inr hc)
          rw [cutH_out hc]
          exact t.new c (by rw [outM hc]; exact q) n fun zz => zz
        · have hc : M c := by
            have i : InB g.bx c := i
            rw [e1] at i
            rcases i with rfl | i
            · exact List.mem_cons_self
            · exact List.mem_cons_of_mem _ i
          exact cutH_in hc
        · have q : (g.k.z c || decide (c ∈ ls)) = false := q
          exact (Bool.or_eq_false_iff.mp q).1
      · exact F.elim
  · exact F.elim
def dctD (key : Str) : D → Option D
  | .dct fs xs => fldD fs xs key
  | _ => none
def xDct (f : Fx D) (key : Str) : Fx D := xUn (dctD key) f
theorem valV_kvD {k : Kx} {H : Hp} : ∀ {fs : List Str} {ds : List D} {vs : List V} {d : D}, IsL k H ds vs → fldD fs ds key = some d → ∃ v, valV (kvD fs vs) (.inr key) = some v ∧ Is k H d v
  | [], _, _, _, _, h => by cases h
  | _ :: _, [], _, _, _, h => by cases h
  | n :: ns, c :: ds, _, d, .cons (v := v) (vs := vs) hi hl, h => by
    unfold fldD at h
    by_cases hf : (key == n) = true
    · rw [if_pos hf] at h
      cases h
      exact ⟨v, valV_pos (by show Sum.inr n = Sum.inr key; rw [eq_of_beq hf]), hi⟩
    · rw [if_neg hf] at h
      obtain ⟨u, h1, h2⟩ := valV_kvD (fs := ns) hl h
      refine ⟨u, ?_, h2⟩
      rw [show kvD (n :: ns) (v :: vs) = (Sum.inr n, v) :: kvD ns vs from rfl, valV_neg (by show ¬ Sum.inr n = Sum.inr key; intro q; cases q; exact hf (beq_self_eq_true _))]
      exact h1
theorem px_dct (hu : X.A.units + 64 < cLine) (he : PX X g W e f) : PX X g W (.Subscript e (.Constant (.str key) j p1) p2) (xDct f key) := by
  refine pe_imp (pe_dget (by omega) he pe_str plainC) ?_
  rintro σ H Q ⟨ρ, b, H0, G, F⟩
  refine ⟨ρ, b, H0, G, F.bind.mono fun d b1 H01 H1 t1 B1 F1 v iv => ?_⟩
  cases iv with
  | @dct a fs vs ds hH hn il =>
    have F1 : Fin g W σ H01 H1 (lift (fldD fs ds key) b1) _ := F1
    cases hf : fldD fs ds key with
    | none => rw [hf] at F1; exact F1.elim
    | some c =>
      rw [hf] at F1
      obtain ⟨u, h1, h2⟩ := valV_kvD il hf
      refine ⟨a, u, rfl, ?_, F1 H01 H1 (Tr.refl t1.sub) B1 u h2⟩
      have q := DGet.k (k := Sum.inr key) (t1.sub _ _ hH)
      rw [h1] at q
      exact q
  | _ => exact F1.elim
end
end Fw
set_option Elab.async false
set_option linter.all false
set_option maxRecDepth 100000
set_option maxHeartbeats 4000000
namespace Fw
open PySem PySem.Spec PyProof.Rows L2
def top (i : Nat) : Stmt := PySem.Challenge.pw_bikedocks_k13_written_and_read.main.body.getD i (.Pass ⟨0, 0, 0, 0⟩)
structure Cs where
  (DockError BadTown BadText Town : Addr)
structure Tx (K : PySem.W.Frag) (mg : Str → Option Value) (c : Cs) : Prop where
  cl_Town : Cls K c.Town
  mg_Town : mg "Town" = some (.ref c.Town)
  n_Town_rooms : NoAttr K c.Town "rooms"
  n_Town_first : NoAttr K c.Town "first"
  n_Town_far : NoAttr K c.Town "far"
  n_Town_at : NoAttr K c.Town "at"
  n_Town_cart_room : NoAttr K c.Town "cart_room"
  n_Town_load : NoAttr K c.Town "load"
  c_MOST_DOCKS : ∃ t, mg "MOST_DOCKS" = some (.int 4 t)
  c_MOST_ROOM : ∃ t, mg "MOST_ROOM" = some (.int 9 t)
  c_MOST_WAY : ∃ t, mg "MOST_WAY" = some (.int 99 t)
  c_SORTS : TupC K mg "SORTS" ["dock", "way", "cart"]
  c_FIGURES : ∃ t, mg "FIGURES" = some (.str "0123456789" t)
def k_must_be (c : Cs) : Fs := (kIf (xNotT (xT (xVar 0))) (fun _ _ => .bad) kNext)
def F_must_be (c : Cs) : FD := runD 3 (k_must_be c)
def k_Town_many (c : Cs) : Fs := (kRet (xB len1 (xCons (xFld c.Town "rooms" (xVar 0)) xNil)))
def F_Town_many (c : Cs) : FD := runD 1 (k_Town_many c)
def fb1_Town_init (c : Cs) : Fs := (kDrop (xCall 3 (F_must_be c) (xCons (xChain3 leD leD leD (xC (.int 0)) (xBin idxD (xIxV 1 (xVar 5)) (xC (.int 1))) (xBin idxD (xIxV 1 (xVar 5)) (xC (.int 0))) (xC (.int 9))) (xCons (xC (.str "dock")) (xCons (xVar 5) xNil)))))
def fb2_Town_init (c : Cs) : Fs := (kSeq (kDrop (xCall 3 (F_must_be c) (xCons (xAnd (xBin (eqD false) (xB len1 (xCons (xIxV 2 (xVar 5)) xNil)) (xVar 4)) (xBin (eqD false) (xBin idxD (xIxV 2 (xVar 5)) (xVar 5)) (xC (.int 0)))) (xCons (xC (.str "way")) (xCons (xVar 5) xNil))))) (kDrop (xCall 3 (F_must_be c) (xCons (xAnd (xBin geD (xB min1 (xCons (xIxV 2 (xVar 5)) xNil)) (xC (.int 0))) (xBin leD (xB max1 (xCons (xIxV 2 (xVar 5)) xNil)) (xC (.int 99)))) (xCons (xC (.str "way")) (xCons (xVar 5) xNil))))))
def el1_Town_init (c : Cs) : Fx D := (xIxV 9 (xC (.int 0)))
def el2_Town_init (c : Cs) : Fx D := (xIxV 9 (xC (.int 1)))
def el3_Town_init (c : Cs) : Fx D := (xB tup1 (xCons (xVar 10) xNil))
def k_Town_init (c : Cs) : Fs := (kSeq (kAsg (xLenV 1) (pName 4)) (kSeq (kDrop (xCall 3 (F_must_be c) (xCons (xChain leD leD (xC (.int 1)) (xVar 4) (xC (.int 4))) (xCons (xC (.str "docks")) (xCons (xC (.int 0)) xNil))))) (kSeq (kFor (xSrc rng1 (xCons (xVar 4) xNil)) (pName 5) (fb1_Town_init c)) (kSeq (kDrop (xCall 3 (F_must_be c) (xCons (xBin (eqD false) (xLenV 2) (xVar 4)) (xCons (xC (.str "ways")) (xCons (xC (.int 0)) xNil))))) (kSeq (kFor (xSrc rng1 (xCons (xVar 4) xNil)) (pName 5) (fb2_Town_init c)) (kSeq (kAsg (xVar 3) (pTup [(pName 6), (pName 7), (pName 8)])) (kSeq (kDrop (xCall 3 (F_must_be c) (xCons (xAnd (xChain leD ltD (xC (.int 0)) (xVar 6) (xVar 4)) (xChain3 leD leD leD (xC (.int 0)) (xVar 8) (xVar 7) (xC (.int 9)))) (xCons (xC (.str "cart")) (xCons (xC (.int 0)) xNil))))) (kSeq (kSelf 0 c.Town "rooms" (xB tup1 (xCons (xLst (xComp (xSeq (xVar 1)) [9] (pName 9) xYes (el1_Town_init c))) xNil))) (kSeq (kSelf 0 c.Town "first" (xB tup1 (xCons (xLst (xComp (xSeq (xVar 1)) [9] (pName 9) xYes (el2_Town_init c))) xNil))) (kSeq (kSelf 0 c.Town "far" (xLst (xComp (xSeq (xVar 2)) [10] (pName 10) xYes (el3_Town_init c)))) (kSeq (kSelf 0 c.Town "at" (xVar 6)) (kSeq (kSelf 0 c.Town "cart_room" (xVar 7)) (kSelf 0 c.Town "load" (xVar 8))))))))))))))
def F_Town_init (c : Cs) : FD := runD 11 (k_Town_init c)
def el1_Town_docks (c : Cs) : Fx D := (xTup (xSz (xCons (xBin idxD (xFld c.Town "rooms" (xVar 0)) (xVar 1)) (xCons (xBin idxD (xFld c.Town "first" (xVar 0)) (xVar 1)) xNil))))
def k_Town_docks (c : Cs) : Fs := (kRetO (xComp (xSrc rng1 (xCons (xMeth c.Town "many" 1 (F_Town_many c) (xVar 0) xNil) xNil)) [1] (pName 1) xYes (el1_Town_docks c)))
def F_Town_docks (c : Cs) : FD := runD 2 (k_Town_docks c)
def el1_Town_ways (c : Cs) : Fx D := (xLst (xSrc lst1 (xCons (xVar 1) xNil)))
def k_Town_ways (c : Cs) : Fs := (kRetO (xComp (xSeq (xFld c.Town "far" (xVar 0))) [1] (pName 1) xYes (el1_Town_ways c)))
def F_Town_ways (c : Cs) : FD := runD 2 (k_Town_ways c)
def k_Town_cart (c : Cs) : Fs := (kRet (xTup (xSz (xCons (xFld c.Town "at" (xVar 0)) (xCons (xFld c.Town "cart_room" (xVar 0)) (xCons (xFld c.Town "load" (xVar 0)) xNil))))))
def F_Town_cart (c : Cs) : FD := runD 1 (k_Town_cart c)
def fb1_Lbegun (c : Cs) : Fs := (kAsg (xBin modD (xBin addD (xBin addD (xBin mulD (xVar 1) (xC (.int 48271))) (xBin mulD (xVar 2) (xC (.int 69621)))) (xC (.int 11))) (xC (.int 2147483647))) (pName 1))
def k_Lbegun (c : Cs) : Fs := (kSeq (kAsg (xC (.int 0)) (pName 1)) (kSeq (kFor (xSeq (xVar 0)) (pName 2) (fb1_Lbegun c)) (kRetO (xSz (xCons (xLst (xSrc lst1 (xCons (xVar 0) xNil))) (xCons (xBin mulD (xVar 1) (xB int1 (xCons (xBin gtD (xLenV 0) (xC (.int 2))) xNil))) xNil))))))
def F_Lbegun (c : Cs) : FD := runD 3 (k_Lbegun c)
def k_Ltake (c : Cs) : Fs := (kSeq (kIf (xT (xBNil 0)) (kSeq (kBSt 0 (xBin modD (xBin mulD (xBSt 0) (xC (.int 48271))) (xC (.int 2147483647)))) (kRet (xBin modD (xBin divD (xBSt 0) (xC (.int 7))) (xVar 1)))) kNext) (kSeq (kAsg (xBHd 0) (pName 2)) (kSeq (kBHd 0 (xBin divD (xVar 2) (xVar 1))) (kSeq (kIf (xOrT (xT (xBin (eqD false) (xBHd 0) (xC (.int 0)))) (xT (xBin (eqD false) (xBHd 0) (xUn negD (xC (.int 1)))))) (kBPop 0) kNext) (kRet (xBin modD (xVar 2) (xVar 1)))))))
def F_Ltake (c : Cs) : FD := runD 3 (k_Ltake c)
def fb1_Lalike (c : Cs) (F_Lalike : Cs → FD) : Fs := (kIf (xNotT (xT (xCall 2 (F_Lalike c) (xCons (xIxV 0 (xVar 2)) (xCons (xIxV 1 (xVar 2)) xNil))))) (kRet (xC (.bl false))) kNext)
def k_Lalike (c : Cs) (F_Lalike : Cs → FD) : Fs := (kSeq (kIf (xT (xBin isND (xVar 1) (xC .non))) (kRet (xBin isND (xVar 0) (xC .non))) kNext) (kSeq (kIf (xT (xUn (isiD "bool") (xVar 1))) (kRet (xAnd (xUn (isiD "bool") (xVar 0)) (xBin (eqD false) (xVar 0) (xVar 1)))) kNext) (kSeq (kIf (xT (xUn (isiD "int") (xVar 1))) (kRet (xAnd (xUn (isiD "int") (xVar 0)) (xAnd (xNot (xUn (isiD "bool") (xVar 0))) (xBin (eqD false) (xVar 0) (xVar 1))))) kNext) (kSeq (kIf (xT (xUn (isiD "str") (xVar 1))) (kRet (xAnd (xUn (isiD "str") (xVar 0)) (xBin (eqD false) (xVar 0) (xVar 1)))) kNext) (kSeq (kIf (xOrT (xT (xBin (eqD true) (xUn (isiD "tuple") (xVar 1)) (xUn (isiD "tuple") (xVar 0)))) (xT (xBin (eqD true) (xUn (isiD "list") (xVar 1)) (xUn (isiD "list") (xVar 0))))) (kRet (xC (.bl false))) kNext) (kSeq (kIf (xT (xBin (eqD true) (xLenV 0) (xLenV 1))) (kRet (xC (.bl false))) kNext) (kSeq (kFor (xSrc rng1 (xCons (xLenV 1) xNil)) (pName 2) (fb1_Lalike c F_Lalike)) (kRet (xC (.bl true))))))))))
def F_Lalike : Nat → Cs → FD
  | 0, _ => fun _ _ => .bad
  | m + 1, c => runD 3 (k_Lalike c (F_Lalike m))
def fb1_Ltown (c : Cs) : Fs := (kSeq (kAsg (xCall 2 (F_Ltake c) (xCons (xVar 0) (xCons (xBin addD (xVar 2) (xC (.int 1))) xNil))) (pName 7)) (kApp 5 (xTup (xSz (xCons (xVar 7) (xCons (xCall 2 (F_Ltake c) (xCons (xVar 0) (xCons (xBin addD (xVar 7) (xC (.int 1))) xNil))) xNil))))))
def el1_Ltown (c : Cs) : Fx D := (xBin idxD (xLst (xSz (xCons (xCall 2 (F_Ltake c) (xCons (xVar 0) (xCons (xC (.int 5)) xNil))) (xCons (xCall 2 (F_Ltake c) (xCons (xVar 0) (xCons (xC (.int 100)) xNil))) xNil)))) (xB int1 (xCons (xBin (eqD false) (xCall 2 (F_Ltake c) (xCons (xVar 0) (xCons (xC (.int 6)) xNil))) (xC (.int 1))) xNil)))
def fb2_Ltown (c : Cs) : Fs := (kSeq (kAsgO (xComp (xSrc rng1 (xCons (xVar 4) xNil)) [9] (pName 9) xYes (el1_Ltown c)) 10) (kSeq (kSetI 10 (xC (.int 0)) (xVar 6)) (kFrz 10 (kApp 8 (xVar 10)))))
def k_Ltown (c : Cs) : Fs := (kSeq (kAsg (xBin addD (xC (.int 1)) (xCall 2 (F_Ltake c) (xCons (xVar 0) (xCons (xVar 1) xNil)))) (pName 4)) (kSeq (kAsgO (xSz xNil) 5) (kSeq (kFor (xSrc rng1 (xCons (xVar 4) xNil)) (pName 6) (fb1_Ltown c)) (kSeq (kAsgO (xSz xNil) 8) (kSeq (kFor (xSrc rng1 (xCons (xVar 4) xNil)) (pName 6) (fb2_Ltown c)) (kSeq (kAsg (xCall 2 (F_Ltake c) (xCons (xVar 0) (xCons (xBin addD (xVar 3) (xC (.int 1))) xNil))) (pName 7)) (kFrz 8 (kFrz 5 (kRet (xTup (xSz (xCons (xVar 5) (xCons (xVar 8) (xCons (xTup (xSz (xCons (xCall 2 (F_Ltake c) (xCons (xVar 0) (xCons (xVar 4) xNil))) (xCons (xVar 7) (xCons (xCall 2 (F_Ltake c) (xCons (xVar 0) (xCons (xBin addD (xVar 7) (xC (.int 1))) xNil))) xNil))))) xNil))))))))))))))
def F_Ltown (c : Cs) : FD := runD 11 (k_Ltown c)
def el1_Lmade (c : Cs) : Fx D := (xLst (xSrc lst1 (xCons (xVar 1) xNil)))
def k_Lmade (c : Cs) : Fs := (kRet (xMk c.Town 4 (F_Town_init c) (xCons (xLst (xSrc lst1 (xCons (xIxV 0 (xC (.int 0))) xNil))) (xCons (xLst (xComp (xSeq (xIxV 0 (xC (.int 1)))) [1] (pName 1) xYes (el1_Lmade c))) (xCons (xIxV 0 (xC (.int 2))) xNil)))))
def F_Lmade (c : Cs) : FD := runD 2 (k_Lmade c)
def el1_Llines (c : Cs) : Fx D := (xBin addD (xBin addD (xBin addD (xC (.str "dock ")) (xB str1 (xCons (xVar 1) xNil))) (xC (.str " "))) (xB str1 (xCons (xVar 2) xNil)))
def el2_Llines (c : Cs) : Fx D := (xB str1 (xCons (xVar 5) xNil))
def fb1_Llines (c : Cs) : Fs := (kApp 3 (xBin addD (xC (.str "way ")) (xM1 joinD (xC (.str " ")) (xLst (xComp (xSeq (xVar 4)) [5] (pName 5) xYes (el2_Llines c))))))
def el3_Llines (c : Cs) : Fx D := (xB str1 (xCons (xVar 6) xNil))
def k_Llines (c : Cs) : Fs := (kSeq (kAsgO (xComp (xSeq (xIxV 0 (xC (.int 0)))) [1, 2] (pTup [(pName 1), (pName 2)]) xYes (el1_Llines c)) 3) (kSeq (kFor (xSeq (xIxV 0 (xC (.int 1)))) (pName 4) (fb1_Llines c)) (kFrz 3 (kRet (xBin addD (xVar 3) (xLst (xSz (xCons (xBin addD (xC (.str "cart ")) (xM1 joinD (xC (.str " ")) (xLst (xComp (xSeq (xIxV 0 (xC (.int 2)))) [6] (pName 6) xYes (el3_Llines c))))) xNil))))))))
def F_Llines (c : Cs) : FD := runD 7 (k_Llines c)
def el1_written (c : Cs) : Fx D := (xBin addD (xBin addD (xBin addD (xC (.str "dock ")) (xB str1 (xCons (xVar 1) xNil))) (xC (.str " "))) (xB str1 (xCons (xVar 2) xNil)))
def el2_written (c : Cs) : Fx D := (xB str1 (xCons (xVar 5) xNil))
def fb1_written (c : Cs) : Fs := (kApp 3 (xBin addD (xC (.str "way ")) (xM1 joinD (xC (.str " ")) (xLst (xComp (xSeq (xVar 4)) [5] (pName 5) xYes (el2_written c))))))
def el3_written (c : Cs) : Fx D := (xB str1 (xCons (xVar 6) xNil))
def k_written (c : Cs) : Fs := (kSeq (kAsgO (xComp (xSeq (xMeth c.Town "docks" 1 (F_Town_docks c) (xVar 0) xNil)) [1, 2] (pTup [(pName 1), (pName 2)]) xYes (el1_written c)) 3) (kSeq (kFor (xSeq (xMeth c.Town "ways" 1 (F_Town_ways c) (xVar 0) xNil)) (pName 4) (fb1_written c)) (kFrz 3 (kRet (xM1 joinD (xC (.str "\n")) (xBin addD (xVar 3) (xLst (xSz (xCons (xBin addD (xC (.str "cart ")) (xM1 joinD (xC (.str " ")) (xLst (xComp (xSeq (xMeth c.Town "cart" 1 (F_Town_cart c) (xVar 0) xNil)) [6] (pName 6) xYes (el3_written c))))) xNil)))))))))
def F_written (c : Cs) : FD := runD 7 (k_written c)
def fb1_number_of (c : Cs) : Fs := (kIf (xT (xBin (inStr true) (xVar 2) (xC (.str "0123456789")))) (fun _ _ => .bad) kNext)
def k_number_of (c : Cs) : Fs := (kSeq (kIf (xOrT (xNotT (xT (xChain leD leD (xC (.int 1)) (xLenV 0) (xC (.int 2))))) (xAndT (xT (xBin (eqD false) (xLenV 0) (xC (.int 2)))) (xT (xBin (eqD false) (xIxV 0 (xC (.int 0))) (xC (.str "0")))))) (fun _ _ => .bad) kNext) (kSeq (kFor (xSeq (xVar 0)) (pName 2) (fb1_number_of c)) (kRet (xB int2 (xCons (xVar 0) xNil)))))
def F_number_of (c : Cs) : FD := runD 3 (k_number_of c)
def el1_read (c : Cs) : Fx D := (xCall 2 (F_number_of c) (xCons (xVar 6) (xCons (xVar 4) xNil)))
def fb1_read (c : Cs) : Fs := (kSeq (kAsg (xLst (xSplit (xIxV 1 (xVar 4)) (xC (.str " ")))) (pName 5)) (kSeq (kIf (xOrT (xT (xBin (inF true) (xIxV 5 (xC (.int 0))) (xC (.tup ((["dock", "way", "cart"] : List Str).map .str))))) (xOrT (xT (xBin ltD (xTidx ["dock", "way", "cart"] (xIxV 5 (xC (.int 0)))) (xVar 3))) (xT (xDNil true 2 "cart")))) (fun _ _ => .bad) kNext) (kSeq (kAsg (xTidx ["dock", "way", "cart"] (xIxV 5 (xC (.int 0)))) (pName 3)) (kSeq (kIf (xOrT (xT (xBin ltD (xLenV 5) (xC (.int 2)))) (xT (xBin (eqD true) (xLenV 5) (xBin idxD (xLst (xSz (xCons (xC (.int 3)) (xCons (xBin addD (xDLen 2 "dock") (xC (.int 1))) (xCons (xC (.int 4)) xNil))))) (xVar 3))))) (fun _ _ => .bad) kNext) (kDApp 2 (xIxV 5 (xC (.int 0))) (xB tup1 (xCons (xLst (xComp (xSeq (xSlc (xVar 5) (xSoP (xC (.int 1))) xNoP)) [6] (pName 6) xYes (el1_read c))) xNil)))))))
def el2_read (c : Cs) : Fx D := (xLst (xSrc lst1 (xCons (xVar 4) xNil)))
def k_read (c : Cs) : Fs := (kSeq (kAsg (xLst (xSplit (xVar 0) (xC (.str "\n")))) (pName 1)) (kDls 2 ["dock", "way", "cart"] (kSeq (kAsg (xC (.int 0)) (pName 3)) (kSeq (kFor (xSrc rng1 (xCons (xLenV 1) xNil)) (pName 4) (fb1_read c)) (kSeq (kIf (xT (xDNil false 2 "cart")) (fun _ _ => .bad) kNext) (kRet (xUnD 2 (xMk c.Town 4 (F_Town_init c) (xCons (xDct (xVar 2) "dock") (xCons (xLst (xComp (xSeq (xDct (xVar 2) "way")) [4] (pName 4) xYes (el2_read c))) (xCons (xBin idxD (xDct (xVar 2) "cart") (xC (.int 0))) xNil)))))))))))
def F_read (c : Cs) : FD := runD 7 (k_read c)
def fb1_law (c : Cs) : Fs := (kSeq (kAsg (xM1 joinD (xC (.str "\n")) (xCall 1 (F_Llines c) (xCons (xVar 4) xNil))) (pName 5)) (kSeq (kIf (xNotT (xT (xCall 2 (F_Lalike 6 c) (xCons (xCall 1 (F_written c) (xCons (xCall 1 (F_Lmade c) (xCons (xVar 4) xNil)) xNil)) (xCons (xVar 5) xNil))))) (kRet (xC (.bl false))) kNext) (kSeq (kAsg (xCall 1 (F_read c) (xCons (xVar 5) xNil)) (pName 6)) (kIf (xNotT (xT (xCall 2 (F_Lalike 6 c) (xCons (xTup (xSz (xCons (xMeth c.Town "docks" 1 (F_Town_docks c) (xVar 6) xNil) (xCons (xMeth c.Town "ways" 1 (F_Town_ways c) (xVar 6) xNil) (xCons (xMeth c.Town "cart" 1 (F_Town_cart c) (xVar 6) xNil) xNil))))) (xCons (xVar 4) xNil))))) (kRet (xC (.bl false))) kNext))))
def k_law (c : Cs) : Fs := (kBegun 1 0 (F_Lbegun c) (kSeq (kAsg (xCall 4 (F_Ltown c) (xCons (xVar 1) (xCons (xC (.int 4)) (xCons (xC (.int 9)) (xCons (xC (.int 9)) xNil))))) (pName 2)) (kSeq (kAsg (xCall 4 (F_Ltown c) (xCons (xVar 1) (xCons (xC (.int 4)) (xCons (xC (.int 9)) (xCons (xC (.int 9)) xNil))))) (pName 3)) (kSeq (kFor (xSeq (xLst (xSz (xCons (xVar 2) (xCons (xVar 3) (xCons (xVar 2) xNil)))))) (pName 4) (fb1_law c)) (kRet (xC (.bl true)))))))
def F_law (c : Cs) : FD := runD 7 (k_law c)
section
variable {P : Program} {w : World} {K : PySem.W.Frag} {mg : Str → Option Value} {base : Heap} {c : Cs}
abbrev s_must_be : Stmt := top 9
abbrev N_must_be : List Str := ["good", "word", "number"]
theorem sc_must_be : FnScope N_must_be ["good", "word", "number"] (defScope s_must_be) := ⟨rfl, rfl, rfl, by decide +kernel, rfl, by decide +kernel, by decide +kernel⟩
theorem ok_must_be {f : Addr} {fd : FuncData} (B : Bi mg) (TX : Tx K mg c) (F : Fun K "must_be" "must_be" s_must_be f fd) (hm : mg "must_be" = some (.ref f)) (b : Binds K fd ["good", "word", "number"] [])  : CalD P w K mg base 1 "must_be" 3 (F_must_be c) :=
  calD (N := N_must_be) (n := 0) (k := k_must_be c) F sc_must_be hm b fun bx z Hs H0s W cdv A outer s H E tk hr => (pb_one (p1_if (pq_not (pq_val (px_var 0))) (pb_one p1_never) pb_nil))
abbrev s_Town_many : Stmt := inClass (top 10) 1
abbrev N_Town_many : List Str := ["self"]
theorem sc_Town_many : FnScope N_Town_many ["self"] (defScope s_Town_many) := ⟨rfl, rfl, rfl, by decide +kernel, rfl, by decide +kernel, by decide +kernel⟩
theorem ok_Town_many {f : Addr} {fd : FuncData} (B : Bi mg) (TX : Tx K mg c) (F : Fun K "many" "Town.many" s_Town_many f fd) (hm : Meth K c.Town "many" f) (b : Binds K fd ["self"] [])  : MetD P w K mg base 1 c.Town "many" 1 (F_Town_many c) :=
  metD (N := N_Town_many) (n := 0) (k := k_Town_many c) TX.cl_Town F sc_Town_many hm b fun bx z Hs H0s W cdv A outer s H E tk hr => (pb_one (p1_ret (px_callB call_len cld_len (by rfl) B.b_len PySem.boot_len (pl_cons (px_fld (px_var 0) rfl TX.cl_Town TX.n_Town_rooms) pl_nil))))
abbrev s_Town_init : Stmt := inClass (top 10) 0
abbrev N_Town_init : List Str := ["self", "docks", "ways", "cart", "many", "number", "place", "room", "load", "dock", "row"]
theorem sc_Town_init : FnScope N_Town_init ["self", "docks", "ways", "cart"] (defScope s_Town_init) := ⟨rfl, rfl, rfl, by decide +kernel, rfl, by decide +kernel, by decide +kernel⟩
theorem ok_Town_init {f : Addr} {fd : FuncData} (B : Bi mg) (TX : Tx K mg c) (F : Fun K "__init__" "Town.__init__" s_Town_init f fd) (M : Mk K c.Town f) (hm : mg "Town" = some (.ref c.Town)) (b : Binds K fd ["self", "docks", "ways", "cart"] []) (c_must_be : CalD P w K mg base 1 "must_be" 3 (F_must_be c)) : MakD P w K mg base 2 "Town" c.Town 4 (F_Town_init c) :=
  ⟨⟨f, fd, _, M, okB (N := N_Town_init) (n := 1) (k := k_Town_init c) F sc_Town_init fun bx z Hs H0s W cdv A outer s H E tk hr => (pb_cons (p1_asg (px_lenV 1 (by rfl) (by rfl) B.b_len) (pg_n 4 sc_Town_init.nd)) (pb_cons (p1_drop (pxc c_must_be hr (by decide) rfl tk (pl_cons (px_chain' op_le op_le opd_le opd_le le_bl px_int (px_var 4) (px_gint TX.c_MOST_DOCKS)) (pl_cons px_str (pl_cons px_int pl_nil))))) (pb_cons (p1_for PassesOwn.leaving rfl (is_rng1 (by rfl) B.b_range (pl_cons (px_var 4) pl_nil)) (pg_n 5 sc_Town_init.nd) (pb_one (p1_drop (pxc c_must_be hr (by decide) rfl tk (pl_cons (px_chain3 op_le opd_le op_le opd_le op_le opd_le le_bl le_bl px_int (px_ix ix_seq opd_idx (px_ixV 1 rfl (px_var 5)) px_int) (px_ix ix_seq opd_idx (px_ixV 1 rfl (px_var 5)) px_int) (px_gint TX.c_MOST_ROOM)) (pl_cons px_str (pl_cons (px_var 5) pl_nil))))))) (pb_cons (p1_drop (pxc c_must_be hr (by decide) rfl tk (pl_cons (px_cmp (op_eqD hr.units) opd_eq (px_lenV 2 (by rfl) (by rfl) B.b_len) (px_var 4)) (pl_cons px_str (pl_cons px_int pl_nil))))) (pb_cons (p1_for PassesOwn.leaving rfl (is_rng1 (by rfl) B.b_range (pl_cons (px_var 4) pl_nil)) (pg_n 5 sc_Town_init.nd) (pb_cons (p1_drop (pxc c_must_be hr (by decide) rfl tk (pl_cons (px_and (px_cmp (op_eqD hr.units) opd_eq (px_callB call_len cld_len (by rfl) B.b_len PySem.boot_len (pl_cons (px_ixV 2 rfl (px_var 5)) pl_nil)) (px_var 4)) (px_one (px_cmp (op_eqD hr.units) opd_eq (px_ix ix_seq opd_idx (px_ixV 2 rfl (px_var 5)) (px_var 5)) px_int))) (pl_cons px_str (pl_cons (px_var 5) pl_nil))))) (pb_one (p1_drop (pxc c_must_be hr (by decide) rfl tk (pl_cons (px_and (px_cmp op_ge opd_ge (px_callB (call_minU rfl) cld_min (by rfl) B.b_min (by decide +kernel) (pl_cons (px_ixV 2 rfl (px_var 5)) pl_nil)) px_int) (px_one (px_cmp op_le opd_le (px_callB (call_maxU rfl) cld_max (by rfl) B.b_max (by decide +kernel) (pl_cons (px_ixV 2 rfl (px_var 5)) pl_nil)) (px_gint TX.c_MOST_WAY)))) (pl_cons px_str (pl_cons (px_var 5) pl_nil)))))))) (pb_cons (p1_asg (px_var 3) (pg_t rfl rfl (pgs_1 (pg_n 6 sc_Town_init.nd) (pgs_1 (pg_n 7 sc_Town_init.nd) (pgs_1 (pg_n 8 sc_Town_init.nd) pgs_0))))) (pb_cons (p1_drop (pxc c_must_be hr (by decide) rfl tk (pl_cons (px_and (px_chain' op_le op_lt opd_le opd_lt le_bl px_int (px_var 6) (px_var 4)) (px_one (px_chain3 op_le opd_le op_le opd_le op_le opd_le le_bl le_bl px_int (px_var 8) (px_var 7) (px_gint TX.c_MOST_ROOM)))) (pl_cons px_str (pl_cons px_int pl_nil))))) (pb_cons (p1_self 0 (px_callTy call_tuple_of cld_tup (by rfl) B.b_tuple (by decide +kernel) (pl_cons (px_fz (po_comp (own := [("dock", 9)]) (is := [9]) rfl sc_Town_init.nd (is_seq rfl (px_var 1)) (blkOk_by (N := N_Town_init) (sc := defScope s_Town_init) (by decide +kernel)) (by decide) (fun _ _ _ _ _ => (pg_n 9 sc_Town_init.nd)) (fun _ _ _ _ _ => ptq_nil) (fun _ _ _ _ _ => (px_ixV 9 rfl px_int)))) pl_nil)) rfl TX.cl_Town TX.n_Town_rooms) (pb_cons (p1_self 0 (px_callTy call_tuple_of cld_tup (by rfl) B.b_tuple (by decide +kernel) (pl_cons (px_fz (po_comp (own := [("dock", 9)]) (is := [9]) rfl sc_Town_init.nd (is_seq rfl (px_var 1)) (blkOk_by (N := N_Town_init) (sc := defScope s_Town_init) (by decide +kernel)) (by decide) (fun _ _ _ _ _ => (pg_n 9 sc_Town_init.nd)) (fun _ _ _ _ _ => ptq_nil) (fun _ _ _ _ _ => (px_ixV 9 rfl px_int)))) pl_nil)) rfl TX.cl_Town TX.n_Town_first) (pb_cons (p1_self 0 (px_fz (po_comp (own := [("row", 10)]) (is := [10]) rfl sc_Town_init.nd (is_seq rfl (px_var 2)) (blkOk_by (N := N_Town_init) (sc := defScope s_Town_init) (by decide +kernel)) (by decide) (fun _ _ _ _ _ => (pg_n 10 sc_Town_init.nd)) (fun _ _ _ _ _ => ptq_nil) (fun _ _ _ _ _ => (px_callTy call_tuple_of cld_tup (by rfl) B.b_tuple (by decide +kernel) (pl_cons (px_var 10) pl_nil))))) rfl TX.cl_Town TX.n_Town_far) (pb_cons (p1_self 0 (px_var 6) rfl TX.cl_Town TX.n_Town_at) (pb_cons (p1_self 0 (px_var 7) rfl TX.cl_Town TX.n_Town_cart_room) (pb_one (p1_self 0 (px_var 8) rfl TX.cl_Town TX.n_Town_load)))))))))))))), b, hm⟩⟩
abbrev s_Town_docks : Stmt := inClass (top 10) 2
abbrev N_Town_docks : List Str := ["self", "dock"]
theorem sc_Town_docks : FnScope N_Town_docks ["self"] (defScope s_Town_docks) := ⟨rfl, rfl, rfl, by decide +kernel, rfl, by decide +kernel, by decide +kernel⟩
theorem ok_Town_docks {f : Addr} {fd : FuncData} (B : Bi mg) (TX : Tx K mg c) (F : Fun K "docks" "Town.docks" s_Town_docks f fd) (hm : Meth K c.Town "docks" f) (b : Binds K fd ["self"] []) (c_Town_many : MetD P w K mg base 1 c.Town "many" 1 (F_Town_many c)) : MetD P w K mg base 2 c.Town "docks" 1 (F_Town_docks c) :=
  metD (N := N_Town_docks) (n := 1) (k := k_Town_docks c) TX.cl_Town F sc_Town_docks hm b fun bx z Hs H0s W cdv A outer s H E tk hr => (pb_one (p1_retO (po_comp (own := [("dock", 1)]) (is := [1]) rfl sc_Town_docks.nd (is_rng1 (by rfl) B.b_range (pl_cons (pxm0 c_Town_many hr (by decide) rfl (px_var 0)) pl_nil)) (blkOk_by (N := N_Town_docks) (sc := defScope s_Town_docks) (by decide +kernel)) (by decide) (fun _ _ _ _ _ => (pg_n 1 sc_Town_docks.nd)) (fun _ _ _ _ _ => ptq_nil) (fun _ _ _ _ _ => (px_tup (pl_cons (px_ix ix_seq opd_idx (px_fld (px_var 0) rfl TX.cl_Town TX.n_Town_rooms) (px_var 1)) (pl_cons (px_ix ix_seq opd_idx (px_fld (px_var 0) rfl TX.cl_Town TX.n_Town_first) (px_var 1)) pl_nil)))))))
abbrev s_Town_ways : Stmt := inClass (top 10) 3
abbrev N_Town_ways : List Str := ["self", "row"]
theorem sc_Town_ways : FnScope N_Town_ways ["self"] (defScope s_Town_ways) := ⟨rfl, rfl, rfl, by decide +kernel, rfl, by decide +kernel, by decide +kernel⟩
theorem ok_Town_ways {f : Addr} {fd : FuncData} (B : Bi mg) (TX : Tx K mg c) (F : Fun K "ways" "Town.ways" s_Town_ways f fd) (hm : Meth K c.Town "ways" f) (b : Binds K fd ["self"] [])  : MetD P w K mg base 1 c.Town "ways" 1 (F_Town_ways c) :=
  metD (N := N_Town_ways) (n := 0) (k := k_Town_ways c) TX.cl_Town F sc_Town_ways hm b fun bx z Hs H0s W cdv A outer s H E tk hr => (pb_one (p1_retO (po_comp (own := [("row", 1)]) (is := [1]) rfl sc_Town_ways.nd (is_seq rfl (px_fld (px_var 0) rfl TX.cl_Town TX.n_Town_far)) (blkOk_by (N := N_Town_ways) (sc := defScope s_Town_ways) (by decide +kernel)) (by decide) (fun _ _ _ _ _ => (pg_n 1 sc_Town_ways.nd)) (fun _ _ _ _ _ => ptq_nil) (fun _ _ _ _ _ => (px_fz (po_list (by rfl) (by rfl) B.b_list (pl_cons (px_var 1) pl_nil)))))))
abbrev s_Town_cart : Stmt := inClass (top 10) 4
abbrev N_Town_cart : List Str := ["self"]
theorem sc_Town_cart : FnScope N_Town_cart ["self"] (defScope s_Town_cart) := ⟨rfl, rfl, rfl, by decide +kernel, rfl, by decide +kernel, by decide +kernel⟩
theorem ok_Town_cart {f : Addr} {fd : FuncData} (B : Bi mg) (TX : Tx K mg c) (F : Fun K "cart" "Town.cart" s_Town_cart f fd) (hm : Meth K c.Town "cart" f) (b : Binds K fd ["self"] [])  : MetD P w K mg base 1 c.Town "cart" 1 (F_Town_cart c) :=
  metD (N := N_Town_cart) (n := 0) (k := k_Town_cart c) TX.cl_Town F sc_Town_cart hm b fun bx z Hs H0s W cdv A outer s H E tk hr => (pb_one (p1_ret (px_tup (pl_cons (px_fld (px_var 0) rfl TX.cl_Town TX.n_Town_at) (pl_cons (px_fld (px_var 0) rfl TX.cl_Town TX.n_Town_cart_room) (pl_cons (px_fld (px_var 0) rfl TX.cl_Town TX.n_Town_load) pl_nil))))))
abbrev s_Lbegun : Stmt := top 18
abbrev N_Lbegun : List Str := ["_law_script", "_law_stirred", "_law_cell"]
theorem sc_Lbegun : FnScope N_Lbegun ["_law_script"] (defScope s_Lbegun) := ⟨rfl, rfl, rfl, by decide +kernel, rfl, by decide +kernel, by decide +kernel⟩
theorem ok_Lbegun {f : Addr} {fd : FuncData} (B : Bi mg) (TX : Tx K mg c) (F : Fun K "_law_begun" "_law_begun" s_Lbegun f fd) (hm : mg "_law_begun" = some (.ref f)) (b : Binds K fd ["_law_script"] [])  : CalD P w K mg base 1 "_law_begun" 1 (F_Lbegun c) :=
  calD (N := N_Lbegun) (n := 0) (k := k_Lbegun c) F sc_Lbegun hm b fun bx z Hs H0s W cdv A outer s H E tk hr => (pb_cons (p1_asg px_int (pg_n 1 sc_Lbegun.nd)) (pb_cons (p1_for PassesOwn.leaving rfl (is_seq rfl (px_var 0)) (pg_n 2 sc_Lbegun.nd) (pb_one (p1_asg (px_bin op_modN opd_mod (px_bin op_addU opd_add (px_bin op_addU opd_add (px_bin op_mulU opd_mul (px_var 1) px_int) (px_bin op_mulU opd_mul (px_var 2) px_int)) px_int) px_int) (pg_n 1 sc_Lbegun.nd)))) (pb_one (p1_retO (po_lst (pl_cons (px_fz (po_list (by rfl) (by rfl) B.b_list (pl_cons (px_var 0) pl_nil))) (pl_cons (px_bin op_mulU opd_mul (px_var 1) (px_callTy call_int1 cld_int (by rfl) B.b_int (by decide +kernel) (pl_cons (px_cmp op_gt opd_gt (px_lenV 0 (by rfl) (by rfl) B.b_len) px_int) pl_nil))) pl_nil)))))))
abbrev s_Ltake : Stmt := top 19
abbrev N_Ltake : List Str := ["_law_box", "_law_many", "_law_number"]
theorem sc_Ltake : FnScope N_Ltake ["_law_box", "_law_many"] (defScope s_Ltake) := ⟨rfl, rfl, rfl, by decide +kernel, rfl, by decide +kernel, by decide +kernel⟩
theorem ok_Ltake {f : Addr} {fd : FuncData} (B : Bi mg) (TX : Tx K mg c) (F : Fun K "_law_take" "_law_take" s_Ltake f fd) (hm : mg "_law_take" = some (.ref f)) (b : Binds K fd ["_law_box", "_law_many"] [])  : CalD P w K mg base 1 "_law_take" 2 (F_Ltake c) :=
  calD (N := N_Ltake) (n := 0) (k := k_Ltake c) F sc_Ltake hm b fun bx z Hs H0s W cdv A outer s H E tk hr => (pb_cons (p1_if (pq_bNil 0 hr.units) (pb_cons (p1_bSt 0 (px_bin op_modN opd_mod (px_bin op_mulU opd_mul (px_bSt 0) px_int) px_int)) (pb_one (p1_ret (px_bin op_modN opd_mod (px_bin op_fdivN opd_div (px_bSt 0) px_int) (px_var 1))))) pb_nil) (pb_cons (p1_asg (px_bHd 0) (pg_n 2 sc_Ltake.nd)) (pb_cons (p1_bHd 0 (px_bin op_fdivN opd_div (px_var 2) (px_var 1))) (pb_cons (p1_if (PWd.toQ (pwd_or (pq_cmp (op_eqD hr.units) opd_eq (px_bHd 0) px_int) (pwd_or1 (pq_cmp (op_eqD hr.units) opd_eq (px_bHd 0) (px_un un_neg und_neg px_int))))) (pb_one (p1_bPop 0)) pb_nil) (pb_one (p1_ret (px_bin op_modN opd_mod (px_var 2) (px_var 1))))))))
abbrev s_Lalike : Stmt := top 20
abbrev N_Lalike : List Str := ["_law_found", "_law_due", "_law_k"]
theorem sc_Lalike : FnScope N_Lalike ["_law_found", "_law_due"] (defScope s_Lalike) := ⟨rfl, rfl, rfl, by decide +kernel, rfl, by decide +kernel, by decide +kernel⟩
theorem ok_Lalike {f : Addr} {fd : FuncData} (B : Bi mg) (TX : Tx K mg c) (F : Fun K "_law_alike" "_law_alike" s_Lalike f fd) (hm : mg "_law_alike" = some (.ref f)) (b : Binds K fd ["_law_found", "_law_due"] [])  : ∀ m : Nat, CalD P w K mg base m "_law_alike" 2 (F_Lalike m c)
  | 0 => calD0 F sc_Lalike hm b
  | m + 1 => by
    have c_Lalike := ok_Lalike B TX F hm b  m
    exact
     calD (N := N_Lalike) (n := m) (k := k_Lalike c (F_Lalike m)) F sc_Lalike hm b fun bx z Hs H0s W cdv A outer s H E tk hr => (pb_cons (p1_if (pq_cmp op_isN opd_isN (px_var 1) px_non) (pb_one (p1_ret (px_cmp op_isN opd_isN (px_var 0) px_non))) pb_nil) (pb_cons (p1_if (pq_val (px_isi (T := "bool") (by decide +kernel) (by rfl) (px_var 1) (by rfl) B.b_isinstance (by rfl) B.b_bool (by decide) (by decide))) (pb_one (p1_ret (px_and (px_isi (T := "bool") (by decide +kernel) (by rfl) (px_var 0) (by rfl) B.b_isinstance (by rfl) B.b_bool (by decide) (by decide)) (px_one (px_cmp (op_eqD hr.units) opd_eq (px_var 0) (px_var 1)))))) pb_nil) (pb_cons (p1_if (pq_val (px_isi (T := "int") (by decide +kernel) (by rfl) (px_var 1) (by rfl) B.b_isinstance (by rfl) B.b_int (by decide) (by decide))) (pb_one (p1_ret (px_and (px_isi (T := "int") (by decide +kernel) (by rfl) (px_var 0) (by rfl) B.b_isinstance (by rfl) B.b_int (by decide) (by decide)) (px_and (px_not (px_isi (T := "bool") (by decide +kernel) (by rfl) (px_var 0) (by rfl) B.b_isinstance (by rfl) B.b_bool (by decide) (by decide))) (px_one (px_cmp (op_eqD hr.units) opd_eq (px_var 0) (px_var 1))))))) pb_nil) (pb_cons (p1_if (pq_val (px_isi (T := "str") (by decide +kernel) (by rfl) (px_var 1) (by rfl) B.b_isinstance (by rfl) B.b_str (by decide) (by decide))) (pb_one (p1_ret (px_and (px_isi (T := "str") (by decide +kernel) (by rfl) (px_var 0) (by rfl) B.b_isinstance (by rfl) B.b_str (by decide) (by decide)) (px_one (px_cmp (op_eqD hr.units) opd_eq (px_var 0) (px_var 1)))))) pb_nil) (pb_cons (p1_if (PWd.toQ (pwd_or (pq_cmp (op_neD hr.units) opd_ne (px_isi (T := "tuple") (by decide +kernel) (by rfl) (px_var 1) (by rfl) B.b_isinstance (by rfl) B.b_tuple (by decide) (by decide)) (px_isi (T := "tuple") (by decide +kernel) (by rfl) (px_var 0) (by rfl) B.b_isinstance (by rfl) B.b_tuple (by decide) (by decide))) (pwd_or1 (pq_cmp (op_neD hr.units) opd_ne (px_isi (T := "list") (by decide +kernel) (by rfl) (px_var 1) (by rfl) B.b_isinstance (by rfl) B.b_list (by decide) (by decide)) (px_isi (T := "list") (by decide +kernel) (by rfl) (px_var 0) (by rfl) B.b_isinstance (by rfl) B.b_list (by decide) (by decide)))))) (pb_one (p1_ret px_bl)) pb_nil) (pb_cons (p1_if (pq_cmp (op_neD hr.units) opd_ne (px_lenV 0 (by rfl) (by rfl) B.b_len) (px_lenV 1 (by rfl) (by rfl) B.b_len)) (pb_one (p1_ret px_bl)) pb_nil) (pb_cons (p1_for PassesOwn.leaving rfl (is_rng1 (by rfl) B.b_range (pl_cons (px_lenV 1 (by rfl) (by rfl) B.b_len) pl_nil)) (pg_n 2 sc_Lalike.nd) (pb_one (p1_if (pq_not (pq_val (pxc c_Lalike hr (Nat.le_refl _) rfl tk (pl_cons (px_ixV 0 rfl (px_var 2)) (pl_cons (px_ixV 1 rfl (px_var 2)) pl_nil))))) (pb_one (p1_ret px_bl)) pb_nil))) (pb_one (p1_ret px_bl)))))))))
abbrev s_Ltown : Stmt := top 21
abbrev N_Ltown : List Str := ["_law_box", "_law_most", "_law_room", "_law_load", "_law_many", "_law_docks", "_law_dock", "_law_space", "_law_ways", "_law_other", "_law_row"]
theorem sc_Ltown : FnScope N_Ltown ["_law_box", "_law_most", "_law_room", "_law_load"] (defScope s_Ltown) := ⟨rfl, rfl, rfl, by decide +kernel, rfl, by decide +kernel, by decide +kernel⟩
theorem ok_Ltown {f : Addr} {fd : FuncData} (B : Bi mg) (TX : Tx K mg c) (F : Fun K "_law_town" "_law_town" s_Ltown f fd) (hm : mg "_law_town" = some (.ref f)) (b : Binds K fd ["_law_box", "_law_most", "_law_room", "_law_load"] []) (c_Ltake : CalD P w K mg base 1 "_law_take" 2 (F_Ltake c)) : CalD P w K mg base 2 "_law_town" 4 (F_Ltown c) :=
  calD (N := N_Ltown) (n := 1) (k := k_Ltown c) F sc_Ltown hm b fun bx z Hs H0s W cdv A outer s H E tk hr => (pb_cons (p1_asg (px_bin op_addU opd_add px_int (pxc c_Ltake hr (by decide) rfl tk (pl_cons (px_var 0) (pl_cons (px_var 1) pl_nil)))) (pg_n 4 sc_Ltown.nd)) (pb_cons (p1_asgO 5 (po_lst pl_nil) sc_Ltown.nd) (pb_cons (p1_for PassesOwn.leaving rfl (is_rng1 (by rfl) B.b_range (pl_cons (px_var 4) pl_nil)) (pg_n 6 sc_Ltown.nd) (pb_cons (p1_asg (pxc c_Ltake hr (by decide) rfl tk (pl_cons (px_var 0) (pl_cons (px_bin op_addU opd_add (px_var 2) px_int) pl_nil))) (pg_n 7 sc_Ltown.nd)) (pb_one (p1_app 5 (px_tup (pl_cons (px_var 7) (pl_cons (pxc c_Ltake hr (by decide) rfl tk (pl_cons (px_var 0) (pl_cons (px_bin op_addU opd_add (px_var 7) px_int) pl_nil))) pl_nil))))))) (pb_cons (p1_asgO 8 (po_lst pl_nil) sc_Ltown.nd) (pb_cons (p1_for PassesOwn.leaving rfl (is_rng1 (by rfl) B.b_range (pl_cons (px_var 4) pl_nil)) (pg_n 6 sc_Ltown.nd) (pb_cons (p1_setComp (own := [("_law_other", 9)]) (is := [9]) 10 rfl sc_Ltown.nd rfl rfl (sw_true rfl rfl rfl (by decide +kernel)) (is_rng1 (by rfl) B.b_range (pl_cons (px_var 4) pl_nil)) (blkOk_by (N := N_Ltown) (sc := defScope s_Ltown) (by decide +kernel)) (by decide) (fun _ _ _ _ _ => (pg_n 9 sc_Ltown.nd)) (fun _ _ _ _ _ => ptq_nil) (fun _ _ _ _ _ => (px_ix ix_seq opd_idx (px_fz (po_lst (pl_cons (pxc c_Ltake hr (by decide) rfl takes0 (pl_cons (px_var 0) (pl_cons px_int pl_nil))) (pl_cons (pxc c_Ltake hr (by decide) rfl takes0 (pl_cons (px_var 0) (pl_cons px_int pl_nil))) pl_nil)))) (px_callTy call_int1 cld_int (by rfl) B.b_int (by decide +kernel) (pl_cons (px_cmp (op_eqD hr.units) opd_eq (pxc c_Ltake hr (by decide) rfl takes0 (pl_cons (px_var 0) (pl_cons px_int pl_nil))) px_int) pl_nil))))) (pb_cons (p1_setI 10 px_int (px_var 6)) (pb_one (p1_frz 10 (p1_app 8 (px_var 10))))))) (pb_cons (p1_asg (pxc c_Ltake hr (by decide) rfl tk (pl_cons (px_var 0) (pl_cons (px_bin op_addU opd_add (px_var 3) px_int) pl_nil))) (pg_n 7 sc_Ltown.nd)) (pb_one (p1_frz 8 (p1_frz 5 (p1_ret (px_tup (pl_cons (px_var 5) (pl_cons (px_var 8) (pl_cons (px_tup (pl_cons (pxc c_Ltake hr (by decide) rfl tk (pl_cons (px_var 0) (pl_cons (px_var 4) pl_nil))) (pl_cons (px_var 7) (pl_cons (pxc c_Ltake hr (by decide) rfl tk (pl_cons (px_var 0) (pl_cons (px_bin op_addU opd_add (px_var 7) px_int) pl_nil))) pl_nil)))) pl_nil))))))))))))))
abbrev s_Lmade : Stmt := top 23
abbrev N_Lmade : List Str := ["_law_rows", "_law_row"]
theorem sc_Lmade : FnScope N_Lmade ["_law_rows"] (defScope s_Lmade) := ⟨rfl, rfl, rfl, by decide +kernel, rfl, by decide +kernel, by decide +kernel⟩
theorem ok_Lmade {f : Addr} {fd : FuncData} (B : Bi mg) (TX : Tx K mg c) (F : Fun K "_law_made" "_law_made" s_Lmade f fd) (hm : mg "_law_made" = some (.ref f)) (b : Binds K fd ["_law_rows"] []) (k_Town : MakD P w K mg base 2 "Town" c.Town 4 (F_Town_init c)) : CalD P w K mg base 4 "_law_made" 1 (F_Lmade c) :=
  calD (N := N_Lmade) (n := 3) (k := k_Lmade c) F sc_Lmade hm b fun bx z Hs H0s W cdv A outer s H E tk hr => (pb_one (p1_ret (pxk k_Town hr (by decide) rfl (pl_cons (px_fz (po_list (by rfl) (by rfl) B.b_list (pl_cons (px_ixV 0 rfl px_int) pl_nil))) (pl_cons (px_fz (po_comp (own := [("_law_row", 1)]) (is := [1]) rfl sc_Lmade.nd (is_seq rfl (px_ixV 0 rfl px_int)) (blkOk_by (N := N_Lmade) (sc := defScope s_Lmade) (by decide +kernel)) (by decide) (fun _ _ _ _ _ => (pg_n 1 sc_Lmade.nd)) (fun _ _ _ _ _ => ptq_nil) (fun _ _ _ _ _ => (px_fz (po_list (by rfl) (by rfl) B.b_list (pl_cons (px_var 1) pl_nil)))))) (pl_cons (px_ixV 0 rfl px_int) pl_nil))))))
abbrev s_Llines : Stmt := top 25
abbrev N_Llines : List Str := ["_law_rows", "_law_room", "_law_bikes", "_law_lines_here", "_law_row", "_law_far", "_law_number"]
theorem sc_Llines : FnScope N_Llines ["_law_rows"] (defScope s_Llines) := ⟨rfl, rfl, rfl, by decide +kernel, rfl, by decide +kernel, by decide +kernel⟩
theorem ok_Llines {f : Addr} {fd : FuncData} (B : Bi mg) (TX : Tx K mg c) (F : Fun K "_law_lines" "_law_lines" s_Llines f fd) (hm : mg "_law_lines" = some (.ref f)) (b : Binds K fd ["_law_rows"] [])  : CalD P w K mg base 1 "_law_lines" 1 (F_Llines c) :=
  calD (N := N_Llines) (n := 0) (k := k_Llines c) F sc_Llines hm b fun bx z Hs H0s W cdv A outer s H E tk hr => (pb_cons (p1_setComp (own := [("_law_room", 1), ("_law_bikes", 2)]) (is := [1, 2]) 3 rfl sc_Llines.nd rfl rfl (sw_true rfl rfl rfl (by decide +kernel)) (is_seq rfl (px_ixV 0 rfl px_int)) (blkOk_by (N := N_Llines) (sc := defScope s_Llines) (by decide +kernel)) (by decide) (fun _ _ _ _ _ => (pg_t rfl rfl (pgs_1 (pg_n 1 sc_Llines.nd) (pgs_1 (pg_n 2 sc_Llines.nd) pgs_0)))) (fun _ _ _ _ _ => ptq_nil) (fun _ _ _ _ _ => (px_bin op_addU opd_add (px_bin op_addU opd_add (px_bin op_addU opd_add px_str (px_callTy call_str_int cld_str (by rfl) B.b_str (by decide +kernel) (pl_cons (px_var 1) pl_nil))) px_str) (px_callTy call_str_int cld_str (by rfl) B.b_str (by decide +kernel) (pl_cons (px_var 2) pl_nil))))) (pb_cons (p1_for PassesOwn.leaving rfl (is_seq rfl (px_ixV 0 rfl px_int)) (pg_n 4 sc_Llines.nd) (pb_one (p1_app 3 (px_bin op_addU opd_add px_str (px_join rfl px_str (px_fz (po_comp (own := [("_law_far", 5)]) (is := [5]) rfl sc_Llines.nd (is_seq rfl (px_var 4)) (blkOk_by (N := N_Llines) (sc := defScope s_Llines) (by decide +kernel)) (by decide) (fun _ _ _ _ _ => (pg_n 5 sc_Llines.nd)) (fun _ _ _ _ _ => ptq_nil) (fun _ _ _ _ _ => (px_callTy call_str_int cld_str (by rfl) B.b_str (by decide +kernel) (pl_cons (px_var 5) pl_nil)))))))))) (pb_one (p1_frz 3 (p1_ret (px_bin op_addU opd_add (px_var 3) (px_fz (po_lst (pl_cons (px_bin op_addU opd_add px_str (px_join rfl px_str (px_fz (po_comp (own := [("_law_number", 6)]) (is := [6]) rfl sc_Llines.nd (is_seq rfl (px_ixV 0 rfl px_int)) (blkOk_by (N := N_Llines) (sc := defScope s_Llines) (by decide +kernel)) (by decide) (fun _ _ _ _ _ => (pg_n 6 sc_Llines.nd)) (fun _ _ _ _ _ => ptq_nil) (fun _ _ _ _ _ => (px_callTy call_str_int cld_str (by rfl) B.b_str (by decide +kernel) (pl_cons (px_var 6) pl_nil))))))) pl_nil)))))))))
abbrev s_written : Stmt := top 14
abbrev N_written : List Str := ["town", "room", "bikes", "rows", "row", "far", "number"]
theorem sc_written : FnScope N_written ["town"] (defScope s_written) := ⟨rfl, rfl, rfl, by decide +kernel, rfl, by decide +kernel, by decide +kernel⟩
theorem ok_written {f : Addr} {fd : FuncData} (B : Bi mg) (TX : Tx K mg c) (F : Fun K "written" "written" s_written f fd) (hm : mg "written" = some (.ref f)) (b : Binds K fd ["town"] []) (c_Town_docks : MetD P w K mg base 2 c.Town "docks" 1 (F_Town_docks c)) (c_Town_ways : MetD P w K mg base 1 c.Town "ways" 1 (F_Town_ways c)) (c_Town_cart : MetD P w K mg base 1 c.Town "cart" 1 (F_Town_cart c)) : CalD P w K mg base 3 "written" 1 (F_written c) :=
  calD (N := N_written) (n := 2) (k := k_written c) F sc_written hm b fun bx z Hs H0s W cdv A outer s H E tk hr => (pb_cons (p1_setComp (own := [("room", 1), ("bikes", 2)]) (is := [1, 2]) 3 rfl sc_written.nd rfl rfl (sw_true rfl rfl rfl (by decide +kernel)) (is_seq rfl (pxm0 c_Town_docks hr (by decide) rfl (px_var 0))) (blkOk_by (N := N_written) (sc := defScope s_written) (by decide +kernel)) (by decide) (fun _ _ _ _ _ => (pg_t rfl rfl (pgs_1 (pg_n 1 sc_written.nd) (pgs_1 (pg_n 2 sc_written.nd) pgs_0)))) (fun _ _ _ _ _ => ptq_nil) (fun _ _ _ _ _ => (px_bin op_addU opd_add (px_bin op_addU opd_add (px_bin op_addU opd_add px_str (px_callTy call_str_int cld_str (by rfl) B.b_str (by decide +kernel) (pl_cons (px_var 1) pl_nil))) px_str) (px_callTy call_str_int cld_str (by rfl) B.b_str (by decide +kernel) (pl_cons (px_var 2) pl_nil))))) (pb_cons (p1_for PassesOwn.leaving rfl (is_seq rfl (pxm0 c_Town_ways hr (by decide) rfl (px_var 0))) (pg_n 4 sc_written.nd) (pb_one (p1_app 3 (px_bin op_addU opd_add px_str (px_join rfl px_str (px_fz (po_comp (own := [("far", 5)]) (is := [5]) rfl sc_written.nd (is_seq rfl (px_var 4)) (blkOk_by (N := N_written) (sc := defScope s_written) (by decide +kernel)) (by decide) (fun _ _ _ _ _ => (pg_n 5 sc_written.nd)) (fun _ _ _ _ _ => ptq_nil) (fun _ _ _ _ _ => (px_callTy call_str_int cld_str (by rfl) B.b_str (by decide +kernel) (pl_cons (px_var 5) pl_nil)))))))))) (pb_one (p1_frz 3 (p1_ret (px_join rfl px_str (px_bin op_addU opd_add (px_var 3) (px_fz (po_lst (pl_cons (px_bin op_addU opd_add px_str (px_join rfl px_str (px_fz (po_comp (own := [("number", 6)]) (is := [6]) rfl sc_written.nd (is_seq rfl (pxm0 c_Town_cart hr (by decide) rfl (px_var 0))) (blkOk_by (N := N_written) (sc := defScope s_written) (by decide +kernel)) (by decide) (fun _ _ _ _ _ => (pg_n 6 sc_written.nd)) (fun _ _ _ _ _ => ptq_nil) (fun _ _ _ _ _ => (px_callTy call_str_int cld_str (by rfl) B.b_str (by decide +kernel) (pl_cons (px_var 6) pl_nil))))))) pl_nil))))))))))
abbrev s_number_of : Stmt := top 15
abbrev N_number_of : List Str := ["word", "row", "sign"]
theorem sc_number_of : FnScope N_number_of ["word", "row"] (defScope s_number_of) := ⟨rfl, rfl, rfl, by decide +kernel, rfl, by decide +kernel, by decide +kernel⟩
theorem ok_number_of {f : Addr} {fd : FuncData} (B : Bi mg) (TX : Tx K mg c) (F : Fun K "number_of" "number_of" s_number_of f fd) (hm : mg "number_of" = some (.ref f)) (b : Binds K fd ["word", "row"] [])  : CalD P w K mg base 1 "number_of" 2 (F_number_of c) :=
  calD (N := N_number_of) (n := 0) (k := k_number_of c) F sc_number_of hm b fun bx z Hs H0s W cdv A outer s H E tk hr => (pb_cons (p1_if (PWd.toQ (pwd_or (pq_not (pq_chain op_le op_le opd_le opd_le le_bl px_int (px_lenV 0 (by rfl) (by rfl) B.b_len) px_int)) (pwd_or1 (PWd.toQ (pwd_and (pq_cmp (op_eqD hr.units) opd_eq (px_lenV 0 (by rfl) (by rfl) B.b_len) px_int) (pwd_and1 (pq_cmp (op_eqD hr.units) opd_eq (px_ixV 0 rfl px_int) px_str))))))) (pb_one p1_never) pb_nil) (pb_cons (p1_for PassesOwn.leaving rfl (is_seq rfl (px_var 0)) (pg_n 2 sc_number_of.nd) (pb_one (p1_if (pq_cmp op_notin_str opd_notInStr (px_var 2) (px_gstr TX.c_FIGURES)) (pb_one p1_never) pb_nil))) (pb_one (p1_ret (px_callTy call_int_str cld_int2 (by rfl) B.b_int (by decide +kernel) (pl_cons (px_var 0) pl_nil))))))
abbrev s_read : Stmt := top 16
abbrev N_read : List Str := ["text", "rows", "found", "last", "row", "words", "word"]
theorem sc_read : FnScope N_read ["text"] (defScope s_read) := ⟨rfl, rfl, rfl, by decide +kernel, rfl, by decide +kernel, by decide +kernel⟩
theorem ok_read {f : Addr} {fd : FuncData} (B : Bi mg) (TX : Tx K mg c) (F : Fun K "read" "read" s_read f fd) (hm : mg "read" = some (.ref f)) (b : Binds K fd ["text"] []) (c_number_of : CalD P w K mg base 1 "number_of" 2 (F_number_of c)) (k_Town : MakD P w K mg base 2 "Town" c.Town 4 (F_Town_init c)) : CalD P w K mg base 4 "read" 1 (F_read c) :=
  calD (N := N_read) (n := 3) (k := k_read c) F sc_read hm b fun bx z Hs H0s W cdv A outer s H E tk hr => (pb_cons (p1_asg (px_fz (po_split (px_var 0) px_str)) (pg_n 1 sc_read.nd)) (pb_dls3 2 sc_read.nd (by decide) (by decide) (by decide) fun a ls Hs H0s => (pb_cons (p1_asg px_int (pg_n 3 sc_read.nd)) (pb_cons (p1_for PassesOwn.leaving rfl (is_rng1 (by rfl) B.b_range (pl_cons (px_lenV 1 (by rfl) (by rfl) B.b_len) pl_nil)) (pg_n 4 sc_read.nd) (pb_cons (p1_asg (px_fz (po_split (px_ixV 1 rfl (px_var 4)) px_str)) (pg_n 5 sc_read.nd)) (pb_cons (p1_if (PWd.toQ (pwd_or (pq_cmp op_notIn_seq (opd_inF true) (px_ixV 5 rfl px_int) (px_gtup TX.c_SORTS (by rfl))) (pwd_or (pq_cmp op_lt opd_lt (px_tidx TX.c_SORTS (px_ixV 5 rfl px_int)) (px_var 3)) (pwd_or1 (px_dNe 2 (by rfl) hr.units))))) (pb_one p1_never) pb_nil) (pb_cons (p1_asg (px_tidx TX.c_SORTS (px_ixV 5 rfl px_int)) (pg_n 3 sc_read.nd)) (pb_cons (p1_if (PWd.toQ (pwd_or (pq_cmp op_lt opd_lt (px_lenV 5 (by rfl) (by rfl) B.b_len) px_int) (pwd_or1 (pq_cmp (op_neD hr.units) opd_ne (px_lenV 5 (by rfl) (by rfl) B.b_len) (px_ix ix_seq opd_idx (px_fz (po_lst (pl_cons px_int (pl_cons (px_bin op_addU opd_add (px_dLen 2 hr.units (by rfl) B.b_len) px_int) (pl_cons px_int pl_nil))))) (px_var 3)))))) (pb_one p1_never) pb_nil) (pb_one (p1_dApp 2 hr.units (fun _ _ => rfl) (px_ixV 5 rfl px_int) (px_callTy call_tuple_of cld_tup (by rfl) B.b_tuple (by decide +kernel) (pl_cons (px_fz (po_comp (own := [("word", 6)]) (is := [6]) rfl sc_read.nd (is_seq rfl (px_slc rfl (px_var 5) (psl_some px_int) psl_none)) (blkOk_by (N := N_read) (sc := defScope s_read) (by decide +kernel)) (by decide) (fun _ _ _ _ _ => (pg_n 6 sc_read.nd)) (fun _ _ _ _ _ => ptq_nil) (fun _ _ _ _ _ => (pxc c_number_of hr (by decide) rfl takes0 (pl_cons (px_var 6) (pl_cons (px_var 4) pl_nil)))))) pl_nil))))))))) (pb_cons (p1_if (px_dEq 2 (by rfl) hr.units) (pb_one p1_never) pb_nil) (pb_one (p1_ret (px_unD 2 fun z Hs H0s => (pxk k_Town hr (by decide) rfl (pl_cons (px_dct hr.units (px_var 2)) (pl_cons (px_fz (po_comp (own := [("row", 4)]) (is := [4]) rfl sc_read.nd (is_seq rfl (px_dct hr.units (px_var 2))) (blkOk_by (N := N_read) (sc := defScope s_read) (by decide +kernel)) (by decide) (fun _ _ _ _ _ => (pg_n 4 sc_read.nd)) (fun _ _ _ _ _ => ptq_nil) (fun _ _ _ _ _ => (px_fz (po_list (by rfl) (by rfl) B.b_list (pl_cons (px_var 4) pl_nil)))))) (pl_cons (px_ix ix_seq opd_idx (px_dct hr.units (px_var 2)) px_int) pl_nil))))))))))))
abbrev s_law : Stmt := top 26
abbrev N_law : List Str := ["_law_script", "_law_box", "_law_one", "_law_other", "_law_rows", "_law_text", "_law_found"]
theorem sc_law : FnScope N_law ["_law_script"] (defScope s_law) := ⟨rfl, rfl, rfl, by decide +kernel, rfl, by decide +kernel, by decide +kernel⟩
theorem ok_law {f : Addr} {fd : FuncData} (B : Bi mg) (TX : Tx K mg c) (F : Fun K "law" "law" s_law f fd) (c_Lbegun : CalD P w K mg base 1 "_law_begun" 1 (F_Lbegun c)) (c_Ltown : CalD P w K mg base 2 "_law_town" 4 (F_Ltown c)) (c_Llines : CalD P w K mg base 1 "_law_lines" 1 (F_Llines c)) (c_Lalike : CalD P w K mg base 6 "_law_alike" 2 (F_Lalike 6 c)) (c_written : CalD P w K mg base 3 "written" 1 (F_written c)) (c_Lmade : CalD P w K mg base 4 "_law_made" 1 (F_Lmade c)) (c_read : CalD P w K mg base 4 "read" 1 (F_read c)) (c_Town_cart : MetD P w K mg base 1 c.Town "cart" 1 (F_Town_cart c)) (c_Town_ways : MetD P w K mg base 1 c.Town "ways" 1 (F_Town_ways c)) (c_Town_docks : MetD P w K mg base 2 c.Town "docks" 1 (F_Town_docks c)) : FnOk P w K mg base (L2.CX P w) 7 f fd ["_law_script"] (spD K 1 (F_law c)) :=
  okB (N := N_law) (n := 6) (k := k_law c) F sc_law fun bx z Hs H0s W cdv A outer s H E tk hr => (pb_begun 1 0 c_Lbegun hr (by decide) (by rfl) tk sc_law.nd fun x y Hs H0s => (pb_cons (p1_asg (pxc c_Ltown hr (by decide) rfl tk (pl_cons (px_var 1) (pl_cons px_int (pl_cons px_int (pl_cons px_int pl_nil))))) (pg_n 2 sc_law.nd)) (pb_cons (p1_asg (pxc c_Ltown hr (by decide) rfl tk (pl_cons (px_var 1) (pl_cons px_int (pl_cons px_int (pl_cons px_int pl_nil))))) (pg_n 3 sc_law.nd)) (pb_cons (p1_for PassesOwn.leaving rfl (is_seq rfl (px_fz (po_lst (pl_cons (px_var 2) (pl_cons (px_var 3) (pl_cons (px_var 2) pl_nil)))))) (pg_n 4 sc_law.nd) (pb_cons (p1_asg (px_join rfl px_str (pxc c_Llines hr (by decide) rfl tk (pl_cons (px_var 4) pl_nil))) (pg_n 5 sc_law.nd)) (pb_cons (p1_if (pq_not (pq_val (pxc c_Lalike hr (by decide) rfl tk (pl_cons (pxc c_written hr (by decide) rfl tk (pl_cons (pxc c_Lmade hr (by decide) rfl tk (pl_cons (px_var 4) pl_nil)) pl_nil)) (pl_cons (px_var 5) pl_nil))))) (pb_one (p1_ret px_bl)) pb_nil) (pb_cons (p1_asg (pxc c_read hr (by decide) rfl tk (pl_cons (px_var 5) pl_nil)) (pg_n 6 sc_law.nd)) (pb_one (p1_if (pq_not (pq_val (pxc c_Lalike hr (by decide) rfl tk (pl_cons (px_tup (pl_cons (pxm0 c_Town_docks hr (by decide) rfl (px_var 6)) (pl_cons (pxm0 c_Town_ways hr (by decide) rfl (px_var 6)) (pl_cons (pxm0 c_Town_cart hr (by decide) rfl (px_var 6)) pl_nil)))) (pl_cons (px_var 4) pl_nil))))) (pb_one (p1_ret px_bl)) pb_nil)))))) (pb_one (p1_ret px_bl))))))
end
end Fw
set_option Elab.async false
set_option linter.all false
set_option maxRecDepth 100000
set_option maxHeartbeats 4000000
/-! S1: the mirrors computed. -/
namespace Fw
open PySem L2

section
variable {α β : Type} {ρ : En} {b b1 : Bx} {f h j l : Fx D} {fl : Fx (List D)} {fb : Fx Bool} {k k' : Fs} {i : Nat} {d : D} {x : Ex} {o : D → D → Option D}
@[simp] theorem bind_ok (a : α) (kk : α → Bx → Res β) : (Res.ok a b).bind kk = kk a b := rfl
@[simp] theorem bind_exc (kk : α → Bx → Res β) : (Res.exc x b).bind kk = .exc x b := rfl
@[simp] theorem bind_bad (kk : α → Bx → Res β) : (Res.bad).bind kk = .bad := rfl
@[simp] theorem out_ok (a : α) (kk : α → Bx → Out) : (Res.ok a b).out kk = kk a b := rfl
@[simp] theorem out_exc (kk : α → Bx → Out) : (Res.exc x b).out kk = .exc x b := rfl
@[simp] theorem out_bad (kk : α → Bx → Out) : (Res.bad).out kk = .bad := rfl
@[simp] theorem lift_some (a : α) : lift (some a) b = .ok a b := rfl
@[simp] theorem lift_none : lift (none : Option α) b = .bad := rfl
@[simp] theorem ev_xVar : xVar i ρ b = (match ρ[i]? with | some (.val d) => .ok d b | _ => .bad) := rfl
@[simp] theorem ev_xC : xC d ρ b = .ok d b := rfl
@[simp] theorem ev_xBin : xBin o f h ρ b = (f ρ b).bind fun x b1 => (h ρ b1).bind fun y b2 => lift (o x y) b2 := rfl
@[simp] theorem ev_xUn {u : D → Option D} : xUn u f ρ b = (f ρ b).bind fun x b1 => lift (u x) b1 := rfl
@[simp] theorem ev_xNil : xNil ρ b = .ok [] b := rfl
@[simp] theorem ev_xCons : xCons f fl ρ b = (f ρ b).bind fun x b1 => (fl ρ b1).bind fun xs b2 => .ok (x :: xs) b2 := rfl
@[simp] theorem ev_xTup : xTup fl ρ b = (fl ρ b).bind fun xs b1 => .ok (.tup xs) b1 := rfl
@[simp] theorem ev_xLst : xLst fl ρ b = (fl ρ b).bind fun xs b1 => .ok (.lst false xs) b1 := rfl
@[simp] theorem ev_xSz : xSz fl ρ b = (fl ρ b).bind fun xs b1 => if xs.length ≤ 100000 then .ok xs b1 else .bad := rfl
@[simp] theorem ev_xT : xT f ρ b = (f ρ b).bind fun x b1 => lift (asB x) b1 := rfl
@[simp] theorem ev_asB (c : Bool) : asB (.bl c) = some c := rfl
@[simp] theorem ev_xAnd : xAnd f h ρ b = (f ρ b).bind fun x b1 => (match x with | .bl true => h ρ b1 | .bl false => .ok (.bl false) b1 | _ => .bad) := rfl
@[simp] theorem ev_xOr : xOr f h ρ b = (f ρ b).bind fun x b1 => (match x with | .bl true => .ok (.bl true) b1 | .bl false => h ρ b1 | _ => .bad) := rfl
@[simp] theorem ev_xNot : xNot f ρ b = (f ρ b).bind fun x b1 => (match x with | .bl c => .ok (.bl (!c)) b1 | _ => .bad) := rfl
@[simp] theorem ev_xAndT {fc : Fx Bool} : xAndT fb fc ρ b = (fb ρ b).bind fun c b1 => if c then fc ρ b1 else .ok false b1 := rfl
@[simp] theorem ev_xOrT {fc : Fx Bool} : xOrT fb fc ρ b = (fb ρ b).bind fun c b1 => if c then .ok true b1 else fc ρ b1 := rfl
@[simp] theorem ev_xNotT : xNotT fb ρ b = (fb ρ b).bind fun c b1 => .ok (!c) b1 := rfl
@[simp] theorem ev_xIf : xIf fb f h ρ b = (fb ρ b).bind fun c b1 => if c then f ρ b1 else h ρ b1 := rfl
@[simp] theorem ev_xB {u : List D → Option D} : xB u fl ρ b = (fl ρ b).bind fun ds b1 => lift (u ds) b1 := rfl
@[simp] theorem ev_xIxV : xIxV i f ρ b = (match slD ρ[i]? with | some x => (f ρ b).bind fun y b1 => lift (idxD x y) b1 | none => .bad) := rfl
@[simp] theorem ev_xLenV : xLenV i ρ b = lift ((slD ρ[i]?).bind lenD) b := rfl
@[simp] theorem slD_val : slD (some (.val d)) = some d := rfl
@[simp] theorem slD_own (ds : List D) : slD (some (.own ds)) = some (.lst false ds) := rfl
@[simp] theorem ev_xCall {n : Nat} {F : FD} : xCall n F fl ρ b = (fl ρ b).bind fun ds b1 => gate n ds (valO (F ds b1)) := rfl
@[simp] theorem ev_xCallO {n : Nat} {F : FD} : xCallO n F fl ρ b = (fl ρ b).bind fun ds b1 => gate n ds (ownO (F ds b1)) := rfl
@[simp] theorem valO_rt : valO (.rt d b) = .ok d b := rfl
@[simp] theorem valO_rto (ds : List D) : valO (.rto ds b) = .ok (.lst false ds) b := rfl
@[simp] theorem valO_nx : valO (.nx ρ b) = .ok .non b := rfl
@[simp] theorem ownO_rto (ds : List D) : ownO (.rto ds b) = .ok ds b := rfl
@[simp] theorem ev_gate {n : Nat} {ds : List D} {r : Res α} : gate n ds r = if ds.length = n then r else .bad := rfl
@[simp] theorem noX_ok (a : α) : noX (Res.ok a b) = .ok a b := rfl
@[simp] theorem ev_kSeq : kSeq k k' ρ b = (match k ρ b with | .nx ρ' b' => k' ρ' b' | o => o) := rfl
@[simp] theorem ev_kNext : kNext ρ b = .nx ρ b := rfl
@[simp] theorem ev_kIf : kIf fb k k' ρ b = (fb ρ b).out fun c b1 => if c then k ρ b1 else k' ρ b1 := rfl
@[simp] theorem ev_kRet : kRet f ρ b = (f ρ b).out fun d b1 => .rt d b1 := rfl
@[simp] theorem ev_kRetO : kRetO fl ρ b = (fl ρ b).out fun d b1 => .rto d b1 := rfl
@[simp] theorem ev_kRetV : kRetV i ρ b = (match ρ[i]? with | some (.own ds) => .rto ds b | some (.val d) => .rt d b | _ => .bad) := rfl
@[simp] theorem ev_kDrop : kDrop f ρ b = (f ρ b).out fun _ b1 => .nx ρ b1 := rfl
@[simp] theorem ev_kAsg {p : Pat} : kAsg f p ρ b = (f ρ b).out fun d b1 => (match p d ρ with | some ρ' => .nx ρ' b1 | none => .bad) := rfl
@[simp] theorem ev_kAsgO : kAsgO fl i ρ b = (fl ρ b).out fun ds b1 => .nx (ρ.set i (.own ds)) b1 := rfl
@[simp] theorem ev_pName : pName i d ρ = some (ρ.set i (.val d)) := rfl
@[simp] theorem ev_pTup {ps : List Pat} (ds : List D) : pTup ps (.tup ds) ρ = pTups ps ds ρ := rfl
@[simp] theorem pTups_nil : pTups [] [] ρ = some ρ := rfl
@[simp] theorem pTups_cons {p : Pat} {ps : List Pat} {ds : List D} : pTups (p :: ps) (d :: ds) ρ = (p d ρ).bind (pTups ps ds) := rfl
@[simp] theorem ev_kFrz : kFrz i k ρ b = k (frz i ρ) b := rfl
@[simp] theorem ev_kFor {p : Pat} : kFor fl p k ρ b = (fl ρ b).out fun ds b1 => forS p k ds ρ b1 := rfl
@[simp] theorem forS_nil {p : Pat} : forS p k [] ρ b = .nx ρ b := by simp only [forS]
theorem forS_cons {p : Pat} {ds : List D} : forS p k (d :: ds) ρ b = (match p d ρ with | none => .bad | some ρ1 => (match k ρ1 b with | .nx ρ2 b2 => forS p k ds ρ2 b2 | .ct ρ2 b2 => forS p k ds ρ2 b2 | .bk ρ2 b2 => .nx ρ2 b2 | o => o)) := by first | (simp only [forS]; rfl) | simp only [forS]
@[simp] theorem ev_xSrc {o : List D → Option (List D)} : xSrc o fl ρ b = (fl ρ b).bind fun ds b1 => lift (o ds) b1 := rfl
@[simp] theorem ev_xSeq : xSeq f ρ b = (f ρ b).bind fun d b1 => lift (seqD d) b1 := rfl
@[simp] theorem seqD_lst (z : Bool) (ds : List D) : seqD (.lst z ds) = some ds := rfl
@[simp] theorem seqD_tup (ds : List D) : seqD (.tup ds) = some ds := rfl
@[simp] theorem seqD_sql (ds : List D) : seqD (.sql ds) = some ds := rfl
@[simp] theorem seqD_str (s : Str) : seqD (.str s) = some (chD s) := rfl
@[simp] theorem ev_runD {n : Nat} (ds : List D) : runD n k ds b = k (startE n ds) b := rfl
@[simp] theorem add_int (a c : Int) : addD (.int a) (.int c) = some (.int (a + c)) := rfl
@[simp] theorem sub_int (a c : Int) : subD (.int a) (.int c) = some (.int (a - c)) := rfl
@[simp] theorem mul_int (a c : Int) : mulD (.int a) (.int c) = if -(2 ^ 64) < c ∧ c < 2 ^ 64 then some (.int (a * c)) else none := rfl
@[simp] theorem div_int (a c : Int) : divD (.int a) (.int c) = if 0 < c ∧ c < 1073741824 then some (.int (a / c)) else none := rfl
@[simp] theorem mod_int (a c : Int) : modD (.int a) (.int c) = if 0 < c then some (.int (a % c)) else none := rfl
@[simp] theorem lt_int (a c : Int) : ltD (.int a) (.int c) = some (.bl (decide (a < c))) := rfl
@[simp] theorem le_int (a c : Int) : leD (.int a) (.int c) = some (.bl (decide (a ≤ c))) := rfl
@[simp] theorem gt_int (a c : Int) : gtD (.int a) (.int c) = some (.bl (decide (c < a))) := rfl
@[simp] theorem ge_int (a c : Int) : geD (.int a) (.int c) = some (.bl (decide (c ≤ a))) := rfl
@[simp] theorem neg_int (a : Int) : negD (.int a) = some (.int (-a)) := rfl
@[simp] theorem eq_int (neg : Bool) (a c : Int) : eqD neg (.int a) (.int c) = some (.bl (neg != (a == c))) := by
  simp [eqD, toPy, SeqAt.shaped, PyData.canLay0, PyData.depth, PyData.eqv]
@[simp] theorem idx_lst (z : Bool) (xs : List D) (a : Int) : idxD (.lst z xs) (.int a) = atI xs a := rfl
@[simp] theorem idx_tup (xs : List D) (a : Int) : idxD (.tup xs) (.int a) = atI xs a := rfl
@[simp] theorem len_lst (z : Bool) (xs : List D) : lenD (.lst z xs) = some (.int xs.length) := rfl
@[simp] theorem len_tup (xs : List D) : lenD (.tup xs) = some (.int xs.length) := rfl
@[simp] theorem len_sql (xs : List D) : lenD (.sql xs) = some (.int xs.length) := rfl
@[simp] theorem len1_eq : len1 [d] = lenD d := rfl
@[simp] theorem int1_int (a : Int) : int1 [.int a] = some (.int a) := rfl
@[simp] theorem int1_bl (a : Bool) : int1 [.bl a] = some (.int (if a then 1 else 0)) := rfl
@[simp] theorem lst1_lst (z : Bool) (xs : List D) : lst1 [.lst z xs] = some xs := rfl
@[simp] theorem lst1_sql (xs : List D) : lst1 [.sql xs] = some xs := rfl
@[simp] theorem lst1_tup (xs : List D) : lst1 [.tup xs] = some xs := rfl
@[simp] theorem tup1_lst (z : Bool) (xs : List D) : tup1 [.lst z xs] = some (.tup xs) := rfl
@[simp] theorem tup1_tup (xs : List D) : tup1 [.tup xs] = some (.tup xs) := rfl
@[simp] theorem rng1_eq (n : Int) : rng1 [.int n] = if -100000 ≤ n ∧ n ≤ 100000 then some (rngD 0 n.toNat) else none := rfl
end
@[simp] theorem start_eq (n : Nat) (ds : List D) : startE n ds = ds.map Sl.val ++ List.replicate (n - ds.length) Sl.no := rfl
theorem atI_zero {α : Type} (x : α) (xs : List α) : atI (x :: xs) 0 = some x := by simp [atI, ixN]
section
variable {ρ : En} {b : Bx} {i : Nat}
@[simp] theorem ev_xBSt : xBSt i ρ b = if isBox ρ i then .ok (.int b.st) b else .bad := rfl
@[simp] theorem ev_xBHd : xBHd i ρ b = if isBox ρ i then (match b.ns with | n :: _ => .ok (.int n) b | [] => .bad) else .bad := rfl
@[simp] theorem ev_xBNil : xBNil i ρ b = if isBox ρ i then .ok (.bl b.ns.isEmpty) b else .bad := rfl
@[simp] theorem ev_kBSt {f : Fx D} : kBSt i f ρ b = (f ρ b).out fun d b1 => (match isBox ρ i, d with | true, .int n => .nx ρ { b1 with st := n } | _, _ => .bad) := rfl
@[simp] theorem ev_kBHd {f : Fx D} : kBHd i f ρ b = (f ρ b).out fun d b1 => (match isBox ρ i, d, b1.ns with | true, .int n, _ :: r => .nx ρ { b1 with ns := n :: r } | _, _, _ => .bad) := rfl
@[simp] theorem ev_kBPop : kBPop i ρ b = (match isBox ρ i, b.ns with | true, _ :: r => .nx ρ { b with ns := r } | _, _ => .bad) := rfl
end

/-! ### a draw -/
theorem take_ok (c : Cs) {m : Int} (h0 : 0 < m) (h1 : m < 1073741824) (b : Bx) : ∃ (r : Int) (b' : Bx), F_Ltake c [.box, .int m] b = .rt (.int r) b' ∧ 0 ≤ r ∧ r < m := by
  unfold F_Ltake k_Ltake
  obtain ⟨ns, st, fs, ds, mm, ls⟩ := b
  cases ns with
  | nil => exact ⟨(st * 48271 % 2147483647) / 7 % m, ⟨[], st * 48271 % 2147483647, fs, ds, mm, ls⟩, by simp [isBox, h0], Int.emod_nonneg _ (by omega), Int.emod_lt_of_pos _ h0⟩
  | cons n r =>
    by_cases hz : n / m = 0
    · exact ⟨n % m, ⟨r, st, fs, ds, mm, ls⟩, by simp [isBox, h0, h1, hz], Int.emod_nonneg _ (by omega), Int.emod_lt_of_pos _ h0⟩
    · by_cases hz2 : n / m = -1
      · exact ⟨n % m, ⟨r, st, fs, ds, mm, ls⟩, by simp [isBox, h0, h1, hz2], Int.emod_nonneg _ (by omega), Int.emod_lt_of_pos _ h0⟩
      · have e2 : (n / m == -1) = false := by simp [hz2]
        exact ⟨n % m, ⟨(n / m) :: r, st, fs, ds, mm, ls⟩, by simp [isBox, h0, h1, hz, e2], Int.emod_nonneg _ (by omega), Int.emod_lt_of_pos _ h0⟩
theorem rngD_len (lo : Int) (n : Nat) : (rngD lo n).length = n := by simp [rngD]
/-- the script's numbers and the stirred one -/
theorem begun_ok (c : Cs) (ns : List Int) (hl : ns.length ≤ 1000) (b : Bx) : ∃ st : Int, F_Lbegun c [.sql (ns.map .int)] b = .rto [.lst false (ns.map .int), .int st] b := by
  unfold F_Lbegun k_Lbegun
  have loop : ∀ (ms : List Int) (s : Int) (x : Sl), ∃ (s' : Int) (x' : Sl), forS (pName 2) (fb1_Lbegun c) (ms.map D.int) [.val (.sql (ns.map .int)), .val (.int s), x] b = .nx [.val (.sql (ns.map .int)), .val (.int s'), x'] b := by
    intro ms
    induction ms with
    | nil => intro s x; exact ⟨s, x, by simp⟩
    | cons m ms ih =>
      intro s x
      obtain ⟨s', x', e⟩ := ih ((s * 48271 + m * 69621 + 11) % 2147483647) (.val (.int m))
      refine ⟨s', x', ?_⟩
      rw [List.map_cons, forS_cons]
      simp [fb1_Lbegun]
      exact e
  obtain ⟨s', x', e⟩ := loop ns 0 .no
  by_cases h : (2 : Int) < ns.length
  · exact ⟨s' * 1, by simp [e, h]⟩
  · exact ⟨s' * 0, by simp [e, h]⟩
end Fw
set_option Elab.async false
set_option linter.all false
set_option maxRecDepth 100000
set_option maxHeartbeats 4000000
/-! S2: loops and comprehensions computed; the drawn town. -/
namespace Fw
open PySem L2
section
variable {ρ : En} {b : Bx} {i : Nat} {f h : Fx D} {fl : Fx (List D)} {d : D} {p : Pat} {k : Fs} {fe : Fx D}
@[simp] theorem ev_kApp : kApp i f ρ b = (match ρ[i]? with | some (.own ds) => (f ρ b).out fun d b1 => if ds.length < 100000 then .nx (ρ.set i (.own (ds ++ [d]))) b1 else .bad | _ => .bad) := rfl
@[simp] theorem ev_kSetI : kSetI i f h ρ b = (match ρ[i]? with | some (.own ds) => (f ρ b).out fun d b1 => (h ρ b1).out fun j b2 => setD ρ i ds d j b2 | _ => .bad) := rfl
@[simp] theorem ev_setD (ds : List D) (z : Int) : setD ρ i ds d (.int z) b = (match ixN ds.length z with | some n => .nx (ρ.set i (.own (ds.set n d))) b | none => .bad) := rfl
@[simp] theorem ev_frz : frz i ρ = (match ρ[i]? with | some (.own ds) => ρ.set i (.val (.lst false ds)) | _ => ρ) := rfl
@[simp] theorem ev_xComp {vs : List Nat} {ft : Fx Bool} : xComp fl vs p ft fe ρ b = (fl ρ b).bind fun ds b1 => if ds.length ≤ 100000 then compS p ft fe (wipeE ρ vs) ds b1 else .bad := rfl
@[simp] theorem wipeE_nil : wipeE ρ [] = ρ := rfl
@[simp] theorem wipeE_cons (v : Nat) (vs : List Nat) : wipeE ρ (v :: vs) = (wipeE ρ vs).set v .no := rfl
@[simp] theorem wipeE_len (vs : List Nat) : (wipeE ρ vs).length = ρ.length := by
  induction vs with
  | nil => rfl
  | cons v vs ih => rw [wipeE_cons, List.length_set, ih]
theorem loop_inv {ds : List D} (I : Nat → En → Bx → Prop) (h : ∀ j d ρ b, ds[j]? = some d → I j ρ b → ∃ ρ1 ρ2 b2, p d ρ = some ρ1 ∧ k ρ1 b = .nx ρ2 b2 ∧ I (j + 1) ρ2 b2) (h0 : I 0 ρ b) : ∃ ρ' b', forS p k ds ρ b = .nx ρ' b' ∧ I ds.length ρ' b' := by
  have key : ∀ (n : Nat) (es : List D) (ρ : En) (b : Bx), (∀ j, es[j]? = ds[n + j]?) → I n ρ b → ∃ ρ' b', forS p k es ρ b = .nx ρ' b' ∧ I (n + es.length) ρ' b' := by
    intro n es
    induction es generalizing n with
    | nil => intro ρ b _ hi; exact ⟨ρ, b, by simp, by simpa using hi⟩
    | cons e es ih =>
      intro ρ b he hi
      obtain ⟨ρ1, ρ2, b2, e1, e2, hi2⟩ := h n e ρ b (by have := he 0; simpa using this.symm) hi
      obtain ⟨ρ', b', e3, hi3⟩ := ih (n + 1) ρ2 b2 (fun j => by have := he (j + 1); rw [show n + 1 + j = n + (j + 1) from by omega]; simpa using this) hi2
      refine ⟨ρ', b', ?_, by rw [List.length_cons, show n + (es.length + 1) = n + 1 + es.length from by omega]; exact hi3⟩
      rw [forS_cons, e1]
      simp only [e2]
      exact e3
  simpa using key 0 ds ρ b (fun j => by rw [Nat.zero_add]) h0
theorem comp_inv {ds : List D} (R : Nat → D → Prop) (h : ∀ j d b, ds[j]? = some d → ∃ ρ1 x b2, p d ρ = some ρ1 ∧ fe ρ1 b = .ok x b2 ∧ R j x) : ∃ xs b', compS p xYes fe ρ ds b = .ok xs b' ∧ xs.length = ds.length ∧ ∀ j x, xs[j]? = some x → R j x := by
  have key : ∀ (n : Nat) (es : List D) (b : Bx), (∀ j, es[j]? = ds[n + j]?) → ∃ xs b', compS p xYes fe ρ es b = .ok xs b' ∧ xs.length = es.length ∧ ∀ j x, xs[j]? = some x → R (n + j) x := by
    intro n es
    induction es generalizing n with
    | nil => intro b _; exact ⟨[], b, by simp [compS], rfl, fun j x q => by simp at q⟩
    | cons e es ih =>
      intro b he
      obtain ⟨ρ1, x, b2, e1, e2, r⟩ := h n e b (by have := he 0; simpa using this.symm)
      obtain ⟨xs, b', e3, hl, hr⟩ := ih (n + 1) b2 (fun j => by have := he (j + 1); rw [show n + 1 + j = n + (j + 1) from by omega]; simpa using this)
      refine ⟨x :: xs, b', ?_, by simp [hl], fun j y q => ?_⟩
      · simp only [compS, e1, xYes, e2, e3]
        rfl
      · cases j with
        | zero => simp at q; subst q; exact r
        | succ j => rw [show n + (j + 1) = n + 1 + j from by omega]; exact hr j y (by simpa using q)
  simpa using key 0 ds b (fun j => by rw [Nat.zero_add])
/-- a comprehension that draws nothing -/
theorem comp_map {ds : List D} (F : D → D) (h : ∀ d ∈ ds, ∃ ρ1, p d ρ = some ρ1 ∧ fe ρ1 b = .ok (F d) b) : compS p xYes fe ρ ds b = .ok (ds.map F) b := by
  induction ds with
  | nil => simp [compS]
  | cons e es ih =>
    obtain ⟨ρ1, e1, e2⟩ := h e List.mem_cons_self
    simp only [compS, e1, xYes, e2, ih fun d hd => h d (List.mem_cons_of_mem _ hd)]
    rfl
end
theorem rngD_get {n j : Nat} {d : D} (h : (rngD 0 n)[j]? = some d) : d = .int j ∧ j < n := by
  have hj : j < n := by have := (List.getElem?_eq_some_iff.mp h).1; rwa [rngD_len] at this
  refine ⟨?_, hj⟩
  simp [rngD, hj] at h
  exact h.symm
theorem ixN_nat {n j : Nat} (h : j < n) : ixN n (j : Int) = some j := by
  simp [ixN]; omega
theorem atI_nat {α : Type} (xs : List α) (j : Nat) : atI xs (j : Int) = xs[j]? := by
  unfold atI
  by_cases h : j < xs.length
  · rw [ixN_nat h]; rfl
  · rw [List.getElem?_eq_none (by omega)]
    have : ixN xs.length (j : Int) = none := by simp [ixN]; omega
    rw [this]; rfl
@[simp] theorem atI_0 {α : Type} (x : α) (xs : List α) : atI (x :: xs) 0 = some x := atI_nat (x :: xs) 0
@[simp] theorem atI_1 {α : Type} (x y : α) (xs : List α) : atI (x :: y :: xs) 1 = some y := atI_nat (x :: y :: xs) 1
@[simp] theorem atI_2 {α : Type} (x y z : α) (xs : List α) : atI (x :: y :: z :: xs) 2 = some z := atI_nat (x :: y :: z :: xs) 2

/-! ### the drawn town -/
structure TD where
  docks : List (Int × Int)
  ways : List (List Int)
  place : Int
  room : Int
  load : Int
def dPair (p : Int × Int) : D := .tup [.int p.1, .int p.2]
def dRow (r : List Int) : D := .lst false (r.map .int)
def dDocks (t : TD) : D := .lst false (t.docks.map dPair)
def dWays (t : TD) : D := .lst false (t.ways.map dRow)
def dCart (t : TD) : D := .tup [.int t.place, .int t.room, .int t.load]
def dTown (t : TD) : D := .tup [dDocks t, dWays t, dCart t]
structure OkT (most rm ld : Int) (t : TD) : Prop where
  n1 : 1 ≤ t.docks.length
  n4 : (t.docks.length : Int) ≤ most
  dk : ∀ p ∈ t.docks, 0 ≤ p.2 ∧ p.2 ≤ p.1 ∧ p.1 ≤ rm
  wl : t.ways.length = t.docks.length
  wr : ∀ (j : Nat) (r : List Int), t.ways[j]? = some r → r.length = t.docks.length ∧ r[j]? = some 0 ∧ ∀ x ∈ r, 0 ≤ x ∧ x ≤ 99
  pl : 0 ≤ t.place ∧ t.place < t.docks.length
  lr : 0 ≤ t.load ∧ t.load ≤ t.room ∧ t.room ≤ ld
theorem intsD {xs : List D} {P : Int → Prop} (h : ∀ (j : Nat) (x : D), xs[j]? = some x → ∃ i, x = D.int i ∧ P i) : ∃ ns : List Int, xs = ns.map D.int ∧ ∀ i ∈ ns, P i := by
  induction xs with
  | nil => exact ⟨[], rfl, fun i q => nomatch q⟩
  | cons x xs ih =>
    obtain ⟨i, rfl, hi⟩ := h 0 x rfl
    obtain ⟨ns, rfl, hn⟩ := ih fun j x q => h (j + 1) x (by simpa using q)
    exact ⟨i :: ns, rfl, fun y q => by rcases List.mem_cons.mp q with rfl | q; exact hi; exact hn y q⟩
theorem town_ok (c : Cs) {most rm ld : Int} (h1 : 1 ≤ most ∧ most ≤ 1000) (h2 : 0 ≤ rm ∧ rm ≤ 1000) (h3 : 0 ≤ ld ∧ ld ≤ 1000) (b : Bx) : ∃ (t : TD) (b' : Bx), F_Ltown c [.box, .int most, .int rm, .int ld] b = .rt (dTown t) b' ∧ OkT most rm ld t := by
  unfold F_Ltown k_Ltown
  obtain ⟨r0, b0, e0, g0⟩ := take_ok c (m := most) (by omega) (by omega) b
  obtain ⟨n, hn⟩ : ∃ n : Nat, 1 + r0 = (n : Int) := ⟨(1 + r0).toNat, by omega⟩
  -- the docks
  obtain ⟨ρ1, b1, e1, ds, x6, x7, hρ1, hl1, hd1⟩ := loop_inv (p := pName 6) (k := fb1_Ltown c) (ds := rngD 0 n) (b := b0) (ρ := [.val .box, .val (.int most), .val (.int rm), .val (.int ld), .val (.int n), .own [], .no, .no, .no, .no, .no])
    (fun j ρ b => ∃ (ds : List (Int × Int)) (x6 x7 : Sl), ρ = [.val .box, .val (.int most), .val (.int rm), .val (.int ld), .val (.int n), .own (ds.map dPair), x6, x7, .no, .no, .no] ∧ ds.length = j ∧ ∀ p ∈ ds, 0 ≤ p.2 ∧ p.2 ≤ p.1 ∧ p.1 ≤ rm)
    (by
      rintro j d ρ b hd ⟨ds, x6, x7, rfl, hl, hp⟩
      obtain ⟨rfl, hj⟩ := rngD_get hd
      obtain ⟨r1, b1, e1, g1⟩ := take_ok c (m := rm + 1) (by omega) (by omega) b
      obtain ⟨r2, b2, e2, g2⟩ := take_ok c (m := r1 + 1) (by omega) (by omega) b1
      refine ⟨_, [.val .box, .val (.int most), .val (.int rm), .val (.int ld), .val (.int n), .own ((ds ++ [(r1, r2)]).map dPair), .val (.int j), .val (.int r1), .no, .no, .no], b2, rfl, ?_, ds ++ [(r1, r2)], _, _, rfl, by simp [hl], ?_⟩
      · have : ds.length < 100000 := by omega
        simp [fb1_Ltown, e1, e2, this, dPair]
      · intro p hp2
        rcases List.mem_append.mp hp2 with q | q
        · exact hp p q
        · simp at q; subst q; simp; omega)
    ⟨[], .no, .no, rfl, rfl, fun p q => nomatch q⟩
  subst hρ1
  rw [rngD_len] at hl1
  -- the ways
  obtain ⟨ρ2, b2, e2, ws, y6, y9, y10, hρ2, hl2, hw2⟩ := loop_inv (p := pName 6) (k := fb2_Ltown c) (ds := rngD 0 n) (b := b1) (ρ := [.val .box, .val (.int most), .val (.int rm), .val (.int ld), .val (.int n), .own (ds.map dPair), x6, x7, .own [], .no, .no])
    (fun j ρ b => ∃ (ws : List (List Int)) (y6 y9 y10 : Sl), ρ = [.val .box, .val (.int most), .val (.int rm), .val (.int ld), .val (.int n), .own (ds.map dPair), y6, x7, .own (ws.map dRow), y9, y10] ∧ ws.length = j ∧
      ∀ (i : Nat) (r : List Int), ws[i]? = some r → r.length = n ∧ r[i]? = some 0 ∧ ∀ x ∈ r, 0 ≤ x ∧ x ≤ 99)
    (by
      rintro j d ρ b hd ⟨ws, y6, y9, y10, rfl, hl, hp⟩
      obtain ⟨rfl, hj⟩ := rngD_get hd
      obtain ⟨xs, b3, e3, hl3, hx3⟩ := comp_inv (p := pName 9) (fe := el1_Ltown c) (ds := rngD 0 n) (b := b) (ρ := [.val .box, .val (.int most), .val (.int rm), .val (.int ld), .val (.int n), .own (ds.map dPair), .val (.int j), x7, .own (ws.map dRow), .no, y10])
        (fun _ x => ∃ i, x = D.int i ∧ 0 ≤ i ∧ i ≤ 99)
        (by
          rintro i d b hd
          obtain ⟨r1, b1, e1, g1⟩ := take_ok c (m := 5) (by omega) (by omega) b
          obtain ⟨r2, b2, e2, g2⟩ := take_ok c (m := 100) (by omega) (by omega) b1
          obtain ⟨r3, b3, e3, g3⟩ := take_ok c (m := 6) (by omega) (by omega) b2
          by_cases hr : r3 = 1
          · exact ⟨_, .int r2, b3, rfl, by simp [el1_Ltown, e1, e2, e3, hr], r2, rfl, by omega, by omega⟩
          · exact ⟨_, .int r1, b3, rfl, by simp [el1_Ltown, e1, e2, e3, hr], r1, rfl, by omega, by omega⟩)
      rw [rngD_len] at hl3
      obtain ⟨ns, rfl, hns⟩ := intsD hx3
      rw [List.length_map] at hl3
      refine ⟨_, [.val .box, .val (.int most), .val (.int rm), .val (.int ld), .val (.int n), .own (ds.map dPair), .val (.int j), x7, .own ((ws ++ [ns.set j 0]).map dRow), y9, .val (dRow (ns.set j 0))], b3, rfl, ?_, ws ++ [ns.set j 0], _, _, _, rfl, by simp [hl], ?_⟩
      · have q1 : (-100000 : Int) ≤ n := by omega
        have q2 : (n : Int) ≤ 100000 := by omega
        have q3 : n ≤ 100000 := by omega
        have q4 : ws.length < 100000 := by omega
        have q5 : ixN n (j : Int) = some j := ixN_nat hj
        simp [fb2_Ltown, q1, q2, q3, q4, q5, e3, hl3, rngD_len, dRow]
      · intro i r hr
        rw [List.getElem?_append] at hr
        split at hr
        · exact hp i r hr
        · rename_i hi
          have hi2 : i = j := by
            have := (List.getElem?_eq_some_iff.mp hr).1
            simp at this; omega
          subst hi2
          rw [hl, Nat.sub_self] at hr
          simp at hr
          subst hr
          refine ⟨by rw [List.length_set]; exact hl3, by rw [List.getElem?_set_self (by omega)], fun x hx => ?_⟩
          rcases List.mem_or_eq_of_mem_set hx with q | q
          · exact hns x q
          · subst q; omega)
    ⟨[], x6, .no, .no, rfl, rfl, fun p q h => by simp at h⟩
  subst hρ2
  rw [rngD_len] at hl2
  obtain ⟨r3, b3, e3, g3⟩ := take_ok c (m := ld + 1) (by omega) (by omega) b2
  obtain ⟨r4, b4, e4, g4⟩ := take_ok c (m := (n : Int)) (by omega) (by omega) b3
  obtain ⟨r5, b5, e5, g5⟩ := take_ok c (m := r3 + 1) (by omega) (by omega) b4
  refine ⟨⟨ds, ws, r4, r3, r5⟩, b5, ?_, ?_⟩
  · have q1 : (-100000 : Int) ≤ n := by omega
    have q2 : (n : Int) ≤ 100000 := by omega
    simp [e0, hn, q1, q2, e1, e2, e3, e4, e5, dTown, dDocks, dWays, dCart]
  · exact ⟨by show 1 ≤ ds.length; omega, by show (ds.length : Int) ≤ most; omega, hd1, by show ws.length = ds.length; omega, fun j r h => by rw [show (TD.docks ⟨ds, ws, r4, r3, r5⟩) = ds from rfl, hl1]; exact hw2 j r h, ⟨g4.1, by show r4 < (ds.length : Int); omega⟩, ⟨g5.1, by show r5 ≤ r3; omega, by show r3 ≤ ld; omega⟩⟩
end Fw
set_option Elab.async false
set_option linter.all false
set_option maxRecDepth 100000
set_option maxHeartbeats 4000000
/-! S3: a town made, and what it tells. -/
namespace Fw
open PySem L2
section
variable {ρ : En} {b : Bx} {i : Nat} {f : Fx D} {fl : Fx (List D)} {d : D} {p : Pat} {k : Fs} {fe : Fx D}
/-- a comprehension over data that stand for xs -/
theorem comp_of {α : Type} {xs : List α} (g F : α → D) (h : ∀ x ∈ xs, ∃ ρ1, p (g x) ρ = some ρ1 ∧ fe ρ1 b = .ok (F x) b) : compS p xYes fe ρ (xs.map g) b = .ok (xs.map F) b := by
  induction xs with
  | nil => simp [compS]
  | cons e es ih =>
    obtain ⟨ρ1, e1, e2⟩ := h e List.mem_cons_self
    simp only [List.map_cons, compS, e1, xYes, e2, ih fun d hd => h d (List.mem_cons_of_mem _ hd)]
    rfl
@[simp] theorem ev_kSelf {C : Addr} {nm : Str} : kSelf i C nm f ρ b = (f ρ b).out fun d b1 => (match ρ[i]? with | some (.val (.slf C')) => if C' = C ∧ b1.fs.contains nm = false ∧ b1.fs.length < 900 then .nx ρ { b1 with fs := b1.fs ++ [nm], ds := b1.ds ++ [d] } else .bad | _ => .bad) := rfl
@[simp] theorem ev_xMk {C : Addr} {n : Nat} {F : FD} : xMk C n F fl ρ b = (fl ρ b).bind fun ds b1 => if ds.length + 1 = n ∧ cleanL ds = true then mkR C (F (.slf C :: ds) { b1 with fs := [], ds := [] }) b1 else .bad := rfl
@[simp] theorem ev_mkR {C : Addr} {b2 b1 : Bx} : mkR C (.nx ρ b2) b1 = if cleanL b2.ds = true then .ok (.ins C b2.fs b2.ds) b1 else .bad := rfl
@[simp] theorem ev_xFld {C : Addr} {nm : Str} : xFld C nm f ρ b = (f ρ b).bind fun d b1 => (match d with | .ins C' ns ds => if C' = C then lift (fldD ns ds nm) b1 else .bad | _ => .bad) := rfl
@[simp] theorem ev_fldD {n nm : Str} {ns : List Str} {ds : List D} : fldD (n :: ns) (d :: ds) nm = if nm == n then some d else fldD ns ds nm := rfl
@[simp] theorem ev_xMeth {C : Addr} {m : Str} {n : Nat} {F : FD} : xMeth C m n F f fl ρ b = (f ρ b).bind fun d b1 => (match d with | .ins C' ns ds => if C' = C ∧ ns.contains m = false then (fl ρ b1).bind fun es b2 => gate n (.ins C' ns ds :: es) (noX (valO (F (.ins C' ns ds :: es) b2))) else .bad | _ => .bad) := rfl
@[simp] theorem ev_xChain {o o' : D → D → Option D} {f h j : Fx D} : xChain o o' f h j ρ b = (f ρ b).bind fun x b1 => (h ρ b1).bind fun y b2 => (match o x y with | some (.bl true) => (j ρ b2).bind fun z b3 => lift (o' y z) b3 | some (.bl false) => .ok (.bl false) b2 | _ => .bad) := rfl
@[simp] theorem ev_xChain3 {o1 o2 o3 : D → D → Option D} {f h j l : Fx D} : xChain3 o1 o2 o3 f h j l ρ b = (f ρ b).bind fun x b1 => (h ρ b1).bind fun y b2 => (match o1 x y with | some (.bl true) => (j ρ b2).bind fun z b3 => (match o2 y z with | some (.bl true) => (l ρ b3).bind fun u b4 => lift (o3 z u) b4 | some (.bl false) => .ok (.bl false) b3 | _ => .bad) | some (.bl false) => .ok (.bl false) b2 | _ => .bad) := rfl
@[simp] theorem cleanL_ints (ns : List Int) : cleanL (ns.map D.int) = true := by
  induction ns with
  | nil => rfl
  | cons n ns ih => simp [cleanL, clean, ih]
theorem cleanL_map {α : Type} {xs : List α} {g : α → D} (h : ∀ x, clean (g x) = true) : cleanL (xs.map g) = true := by
  induction xs with
  | nil => rfl
  | cons n ns ih => simp [cleanL, h, ih]
end
@[simp] theorem sn1 : (("rooms" : Str) = "first") = False := eq_false (by decide +kernel)
@[simp] theorem sn2 : (("rooms" : Str) = "far") = False := eq_false (by decide +kernel)
@[simp] theorem sn3 : (("rooms" : Str) = "at") = False := eq_false (by decide +kernel)
@[simp] theorem sn4 : (("rooms" : Str) = "cart_room") = False := eq_false (by decide +kernel)
@[simp] theorem sn5 : (("rooms" : Str) = "load") = False := eq_false (by decide +kernel)
@[simp] theorem sn6 : (("first" : Str) = "rooms") = False := eq_false (by decide +kernel)
@[simp] theorem sn7 : (("first" : Str) = "far") = False := eq_false (by decide +kernel)
@[simp] theorem sn8 : (("first" : Str) = "at") = False := eq_false (by decide +kernel)
@[simp] theorem sn9 : (("first" : Str) = "cart_room") = False := eq_false (by decide +kernel)
@[simp] theorem sn10 : (("first" : Str) = "load") = False := eq_false (by decide +kernel)
@[simp] theorem sn11 : (("far" : Str) = "rooms") = False := eq_false (by decide +kernel)
@[simp] theorem sn12 : (("far" : Str) = "first") = False := eq_false (by decide +kernel)
@[simp] theorem sn13 : (("far" : Str) = "at") = False := eq_false (by decide +kernel)
@[simp] theorem sn14 : (("far" : Str) = "cart_room") = False := eq_false (by decide +kernel)
@[simp] theorem sn15 : (("far" : Str) = "load") = False := eq_false (by decide +kernel)
@[simp] theorem sn16 : (("at" : Str) = "rooms") = False := eq_false (by decide +kernel)
@[simp] theorem sn17 : (("at" : Str) = "first") = False := eq_false (by decide +kernel)
@[simp] theorem sn18 : (("at" : Str) = "far") = False := eq_false (by decide +kernel)
@[simp] theorem sn19 : (("at" : Str) = "cart_room") = False := eq_false (by decide +kernel)
@[simp] theorem sn20 : (("at" : Str) = "load") = False := eq_false (by decide +kernel)
@[simp] theorem sn21 : (("cart_room" : Str) = "rooms") = False := eq_false (by decide +kernel)
@[simp] theorem sn22 : (("cart_room" : Str) = "first") = False := eq_false (by decide +kernel)
@[simp] theorem sn23 : (("cart_room" : Str) = "far") = False := eq_false (by decide +kernel)
@[simp] theorem sn24 : (("cart_room" : Str) = "at") = False := eq_false (by decide +kernel)
@[simp] theorem sn25 : (("cart_room" : Str) = "load") = False := eq_false (by decide +kernel)
@[simp] theorem sn26 : (("load" : Str) = "rooms") = False := eq_false (by decide +kernel)
@[simp] theorem sn27 : (("load" : Str) = "first") = False := eq_false (by decide +kernel)
@[simp] theorem sn28 : (("load" : Str) = "far") = False := eq_false (by decide +kernel)
@[simp] theorem sn29 : (("load" : Str) = "at") = False := eq_false (by decide +kernel)
@[simp] theorem sn30 : (("load" : Str) = "cart_room") = False := eq_false (by decide +kernel)
@[simp] theorem sn31 : (("docks" : Str) = "rooms") = False := eq_false (by decide +kernel)
@[simp] theorem sn32 : (("docks" : Str) = "first") = False := eq_false (by decide +kernel)
@[simp] theorem sn33 : (("docks" : Str) = "far") = False := eq_false (by decide +kernel)
@[simp] theorem sn34 : (("docks" : Str) = "at") = False := eq_false (by decide +kernel)
@[simp] theorem sn35 : (("docks" : Str) = "cart_room") = False := eq_false (by decide +kernel)
@[simp] theorem sn36 : (("docks" : Str) = "load") = False := eq_false (by decide +kernel)
@[simp] theorem sn37 : (("ways" : Str) = "rooms") = False := eq_false (by decide +kernel)
@[simp] theorem sn38 : (("ways" : Str) = "first") = False := eq_false (by decide +kernel)
@[simp] theorem sn39 : (("ways" : Str) = "far") = False := eq_false (by decide +kernel)
@[simp] theorem sn40 : (("ways" : Str) = "at") = False := eq_false (by decide +kernel)
@[simp] theorem sn41 : (("ways" : Str) = "cart_room") = False := eq_false (by decide +kernel)
@[simp] theorem sn42 : (("ways" : Str) = "load") = False := eq_false (by decide +kernel)
@[simp] theorem sn43 : (("cart" : Str) = "rooms") = False := eq_false (by decide +kernel)
@[simp] theorem sn44 : (("cart" : Str) = "first") = False := eq_false (by decide +kernel)
@[simp] theorem sn45 : (("cart" : Str) = "far") = False := eq_false (by decide +kernel)
@[simp] theorem sn46 : (("cart" : Str) = "at") = False := eq_false (by decide +kernel)
@[simp] theorem sn47 : (("cart" : Str) = "cart_room") = False := eq_false (by decide +kernel)
@[simp] theorem sn48 : (("cart" : Str) = "load") = False := eq_false (by decide +kernel)
@[simp] theorem sn49 : (("many" : Str) = "rooms") = False := eq_false (by decide +kernel)
@[simp] theorem sn50 : (("many" : Str) = "first") = False := eq_false (by decide +kernel)
@[simp] theorem sn51 : (("many" : Str) = "far") = False := eq_false (by decide +kernel)
@[simp] theorem sn52 : (("many" : Str) = "at") = False := eq_false (by decide +kernel)
@[simp] theorem sn53 : (("many" : Str) = "cart_room") = False := eq_false (by decide +kernel)
@[simp] theorem sn54 : (("many" : Str) = "load") = False := eq_false (by decide +kernel)
@[simp] theorem sn55 : (("begin" : Str) = "rooms") = False := eq_false (by decide +kernel)
@[simp] theorem sn56 : (("begin" : Str) = "first") = False := eq_false (by decide +kernel)
@[simp] theorem sn57 : (("begin" : Str) = "far") = False := eq_false (by decide +kernel)
@[simp] theorem sn58 : (("begin" : Str) = "at") = False := eq_false (by decide +kernel)
@[simp] theorem sn59 : (("begin" : Str) = "cart_room") = False := eq_false (by decide +kernel)
@[simp] theorem sn60 : (("begin" : Str) = "load") = False := eq_false (by decide +kernel)
theorem must_ok (c : Cs) (x y : D) (b : Bx) : F_must_be c [.bl true, x, y] b = .nx [.val (.bl true), .val x, .val y] b := by
  simp [F_must_be, k_must_be]
abbrev tNames : List Str := ["rooms", "first", "far", "at", "cart_room", "load"]
def tupR (r : List Int) : D := .tup (r.map .int)
def dRooms (t : TD) : D := .tup (t.docks.map fun p => .int p.1)
def dFirst (t : TD) : D := .tup (t.docks.map fun p => .int p.2)
def dFar (t : TD) : D := .lst false (t.ways.map tupR)
def dTownI (c : Cs) (t : TD) : D := .ins c.Town tNames [dRooms t, dFirst t, dFar t, .int t.place, .int t.room, .int t.load]
theorem min1_ge {r : List Int} {lo : Int} (h0 : r ≠ []) (h : ∀ x ∈ r, lo ≤ x) : ∃ m : Int, min1 [.lst false (r.map .int)] = some (.int m) ∧ lo ≤ m := by
  cases r with
  | nil => exact absurd rfl h0
  | cons x r => exact ⟨r.foldl min x, by simp only [min1, intsOf_map]; rfl, h _ (foldl_min r x).1⟩
theorem max1_le {r : List Int} {hi : Int} (h0 : r ≠ []) (h : ∀ x ∈ r, x ≤ hi) : ∃ m : Int, max1 [.lst false (r.map .int)] = some (.int m) ∧ m ≤ hi := by
  cases r with
  | nil => exact absurd rfl h0
  | cons x r => exact ⟨r.foldl max x, by simp only [max1, intsOf_map]; rfl, h _ (foldl_max r x).1⟩
theorem init_ok (c : Cs) {t : TD} {rm ld : Int} (T : OkT 4 rm ld t) (hrm : rm ≤ 9) (hld : ld ≤ 9) (z : Bool) (b : Bx) (hf : b.fs = []) (hd : b.ds = []) : ∃ ρ', F_Town_init c [.slf c.Town, .lst z (t.docks.map dPair), dWays t, dCart t] b = .nx ρ' { b with fs := tNames, ds := [dRooms t, dFirst t, dFar t, .int t.place, .int t.room, .int t.load] } := by
  obtain ⟨n1, n4, dk, wl, wr, pl, lr⟩ := T
  obtain ⟨ds, ws, place, room, load⟩ := t
  obtain ⟨ns, st, fs, dd, mm, ls⟩ := b
  simp only at *
  subst hf hd
  generalize hn : ds.length = n at *
  have hnn : n ≤ 4 := by omega
  unfold F_Town_init k_Town_init
  obtain ⟨ρ1, b1, e1, x5, hρ1, hb1⟩ := loop_inv (p := pName 5) (k := fb1_Town_init c) (ds := rngD 0 n) (b := ⟨ns, st, [], [], mm, ls⟩) (ρ := [.val (.slf c.Town), .val (.lst z (ds.map dPair)), .val (dWays ⟨ds, ws, place, room, load⟩), .val (dCart ⟨ds, ws, place, room, load⟩), .val (.int n), .no, .no, .no, .no, .no, .no])
    (fun j ρ b => ∃ x5 : Sl, ρ = [.val (.slf c.Town), .val (.lst z (ds.map dPair)), .val (dWays ⟨ds, ws, place, room, load⟩), .val (dCart ⟨ds, ws, place, room, load⟩), .val (.int n), x5, .no, .no, .no, .no, .no] ∧ b = ⟨ns, st, [], [], mm, ls⟩)
    (by
      rintro j d ρ b hd ⟨x5, rfl, rfl⟩
      obtain ⟨rfl, hj⟩ := rngD_get hd
      refine ⟨_, [.val (.slf c.Town), .val (.lst z (ds.map dPair)), .val (dWays ⟨ds, ws, place, room, load⟩), .val (dCart ⟨ds, ws, place, room, load⟩), .val (.int n), .val (.int j), .no, .no, .no, .no, .no], _, rfl, ?_, _, rfl, rfl⟩
      have hjd : j < ds.length := by omega
      obtain ⟨h1, h2, h3⟩ := dk ds[j] (List.getElem_mem hjd)
      have h9 : ds[j].1 ≤ 9 := by omega
      simp [fb1_Town_init, dDocks, dPair, atI_nat, hjd, h1, h2, h9, must_ok])
    ⟨.no, rfl, rfl⟩
  subst hρ1 hb1
  obtain ⟨ρ2, b2, e2, y5, hρ2, hb2⟩ := loop_inv (p := pName 5) (k := fb2_Town_init c) (ds := rngD 0 n) (b := ⟨ns, st, [], [], mm, ls⟩) (ρ := [.val (.slf c.Town), .val (.lst z (ds.map dPair)), .val (dWays ⟨ds, ws, place, room, load⟩), .val (dCart ⟨ds, ws, place, room, load⟩), .val (.int n), x5, .no, .no, .no, .no, .no])
    (fun j ρ b => ∃ x5 : Sl, ρ = [.val (.slf c.Town), .val (.lst z (ds.map dPair)), .val (dWays ⟨ds, ws, place, room, load⟩), .val (dCart ⟨ds, ws, place, room, load⟩), .val (.int n), x5, .no, .no, .no, .no, .no] ∧ b = ⟨ns, st, [], [], mm, ls⟩)
    (by
      rintro j d ρ b hd ⟨x5, rfl, rfl⟩
      obtain ⟨rfl, hj⟩ := rngD_get hd
      refine ⟨_, [.val (.slf c.Town), .val (.lst z (ds.map dPair)), .val (dWays ⟨ds, ws, place, room, load⟩), .val (dCart ⟨ds, ws, place, room, load⟩), .val (.int n), .val (.int j), .no, .no, .no, .no, .no], _, rfl, ?_, _, rfl, rfl⟩
      have hjw : j < ws.length := by omega
      obtain ⟨h1, h2, h3⟩ := wr j ws[j] (List.getElem?_eq_getElem hjw)
      have hne : ws[j] ≠ [] := fun q => by rw [q] at h1; simp at h1; omega
      obtain ⟨m1, f1, g1⟩ := min1_ge hne fun x hx => (h3 x hx).1
      obtain ⟨m2, f2, g2⟩ := max1_le hne fun x hx => (h3 x hx).2
      simp [fb2_Town_init, dWays, dRow, atI_nat, hjw, h1, h2, f1, f2, g1, g2, must_ok])
    ⟨x5, rfl, rfl⟩
  subst hρ2 hb2
  have f1 : ∀ (ρ : En) (b : Bx), ρ.length = 11 → compS (pName 9) xYes (el1_Town_init c) ρ (ds.map dPair) b = .ok (ds.map fun p => .int p.1) b := fun ρ b hl => comp_of dPair _ fun p _ => ⟨_, rfl, by simp [el1_Town_init, dPair, set_get, hl]⟩
  have f2 : ∀ (ρ : En) (b : Bx), ρ.length = 11 → compS (pName 9) xYes (el2_Town_init c) ρ (ds.map dPair) b = .ok (ds.map fun p => .int p.2) b := fun ρ b hl => comp_of dPair _ fun p _ => ⟨_, rfl, by simp [el2_Town_init, dPair, set_get, hl]⟩
  have f3 : ∀ (ρ : En) (b : Bx), ρ.length = 11 → compS (pName 10) xYes (el3_Town_init c) ρ (ws.map dRow) b = .ok (ws.map tupR) b := fun ρ b hl => comp_of dRow _ fun p _ => ⟨_, rfl, by simp [el3_Town_init, dRow, tupR, set_get, hl]⟩
  have q1 : (1 : Int) ≤ n := by omega
  have q2 : (n : Int) ≤ 4 := by omega
  have q3 : (-100000 : Int) ≤ n := by omega
  have q4 : (n : Int) ≤ 100000 := by omega
  have q5 : n ≤ 100000 := by omega
  have q6 : room ≤ 9 := by omega
  have q7 : place < n := by omega
  have e1' := e1
  have e2' := e2
  simp only [dDocks, dWays, dCart] at e1' e2'
  refine ⟨[.val (.slf c.Town), .val (.lst z (ds.map dPair)), .val (.lst false (ws.map dRow)), .val (.tup [.int place, .int room, .int load]), .val (.int n), y5, .val (.int place), .val (.int room), .val (.int load), .no, .no], ?_⟩
  simp [dDocks, dWays, dCart, hn, must_ok, q1, q2, q3, q4, q5, q6, q7, e1', e2', wl, pl.1, lr.1, lr.2.1, f1, f2, f3, dRooms, dFirst, dFar]
end Fw
set_option Elab.async false
set_option linter.all false
set_option maxRecDepth 100000
set_option maxHeartbeats 4000000
/-! S4: numbers and rows as text. -/
namespace Fw
open PySem L2 TL
def strI (i : Int) : Str := toString i
def okNum (i : Int) : Bool := let w := strI i
  decide (1 ≤ w.length ∧ w.length ≤ 2) && (!(decide (w.length = 2) && w.cps.toList[0]? == some 48)) && w.cps.toList.all (fun c => !(Builtin.Str.occurrences "0123456789" ⟨#[c]⟩ 0 10 1).isEmpty && c != 32 && c != 10 && decide (c < 256)) && PySem.intText? w == some i
theorem okNum_all : (List.range 100).all (fun n => okNum (n : Int)) = true := by decide +kernel
theorem okNum_of {i : Int} (h : 0 ≤ i ∧ i ≤ 99) : okNum i = true := by
  have := List.all_eq_true.mp okNum_all i.toNat (List.mem_range.mpr (by omega))
  rwa [Int.toNat_of_nonneg h.1] at this
structure NumT (i : Int) : Prop where
  l1 : 1 ≤ (strI i).length
  l2 : (strI i).length ≤ 2
  z : ¬ ((strI i).length = 2 ∧ (strI i).cps.toList[0]? = some 48)
  fig : ∀ c ∈ (strI i).cps.toList, (Builtin.Str.occurrences "0123456789" ⟨#[c]⟩ 0 10 1).isEmpty = false
  sp : 32 ∉ (strI i).cps.toList
  nl : 10 ∉ (strI i).cps.toList
  ok : ∀ c ∈ (strI i).cps.toList, c < 256
  int : PySem.intText? (strI i) = some i
theorem num_of {i : Int} (h : 0 ≤ i ∧ i ≤ 99) : NumT i := by
  have q := okNum_of h
  unfold okNum at q
  simp only [Bool.and_eq_true, decide_eq_true_eq, Bool.not_eq_true', Bool.and_eq_false_iff, decide_eq_false_iff_not, List.all_eq_true, bne_iff_ne, beq_iff_eq, beq_eq_false_iff_ne] at q
  obtain ⟨⟨⟨h1, h2⟩, h3⟩, h4⟩ := q
  exact ⟨h1.1, h1.2, fun z => h2.elim (fun q => q z.1) fun q => q z.2, fun c hc => (h3 c hc).1.1.1, fun hc => (h3 32 hc).1.1.2 rfl, fun hc => (h3 10 hc).1.2 rfl, fun c hc => (h3 c hc).2, h4⟩
theorem fig_len : ("0123456789" : Str).length = 10 := by decide +kernel
theorem strOk_of {x : Str} (h : ∀ c ∈ x.cps.toList, c < 256) : PyData.strOk x = true := by
  unfold PyData.strOk
  rw [← Array.all_toList, List.all_eq_true]
  intro c hc
  have := h c hc
  exact decide_eq_true (by omega)
theorem eq_str (neg : Bool) {x y : Str} (hx : PyData.strOk x = true) (hy : PyData.strOk y = true) : eqD neg (.str x) (.str y) = some (.bl (neg != (x == y))) := by
  simp [eqD, toPy, SeqAt.shaped, PyData.canLay0, PyData.depth, PyData.eqv, hx, hy]
theorem len_str {x : Str} (h : x.length ≤ 100000) : lenD (.str x) = some (.int x.length) := if_pos h
theorem number_ok (c : Cs) {i : Int} (h : 0 ≤ i ∧ i ≤ 99) (row : Int) (b : Bx) : F_number_of c [.str (strI i), .int row] b = .rt (.int i) b := by
  have T := num_of h
  have hl := len_tl (strI i)
  have h1 := T.l1
  have h2 := T.l2
  have h640 : (strI i).length ≤ 640 := by omega
  have hlen := len_str (x := strI i) (by omega)
  have hfig := T.fig
  have hz := T.z
  have hint := T.int
  have hok := strOk_of T.ok
  unfold F_number_of k_number_of
  obtain ⟨c1, hw⟩ | ⟨c1, c2, hw⟩ : (∃ c1, tl (strI i) = [c1]) ∨ ∃ c1 c2, tl (strI i) = [c1, c2] := by
    match hq : tl (strI i) with
    | [] => rw [hq] at hl; simp at hl; omega
    | [c1] => exact .inl ⟨c1, rfl⟩
    | [c1, c2] => exact .inr ⟨c1, c2, rfl⟩
    | c1 :: c2 :: c3 :: r => rw [hq] at hl; simp at hl; omega
  · rw [hw] at hl
    have hL : (strI i).length = 1 := by simpa using hl
    have g1 := hfig c1 (by rw [show (strI i).cps.toList = [c1] from hw]; simp)
    have ech : chD (strI i) = [.str ⟨#[c1]⟩] := by unfold chD; rw [show (strI i).cps.toList = [c1] from hw]; rfl
    simp [hlen, hL, ech, forS_cons, fb1_number_of, inStr, fig_len, g1, int2, hint]
  · rw [hw] at hl
    have hL : (strI i).length = 2 := by simpa using hl
    have g1 := hfig c1 (by rw [show (strI i).cps.toList = [c1, c2] from hw]; simp)
    have g2 := hfig c2 (by rw [show (strI i).cps.toList = [c1, c2] from hw]; simp)
    have ech : chD (strI i) = [.str ⟨#[c1]⟩, .str ⟨#[c2]⟩] := by unfold chD; rw [show (strI i).cps.toList = [c1, c2] from hw]; rfl
    have hix : idxD (.str (strI i)) (.int 0) = some (.str ⟨#[c1]⟩) := by
      show (if (strI i).length ≤ 100000 then (atI (strI i).cps.toList 0).map fun c => D.str ⟨#[c]⟩ else none) = _
      rw [if_pos (by omega), show (strI i).cps.toList = [c1, c2] from hw]; rfl
    have hc : c1 ≠ 48 := fun q => hz ⟨hL, by rw [show (strI i).cps.toList = [c1, c2] from hw, q]; rfl⟩
    have he : eqD false (.str ⟨#[c1]⟩) (.str "0") = some (.bl false) := by
      have o1 : PyData.strOk ⟨#[c1]⟩ = true := strOk_of fun c hc => by
        have hc : c ∈ [c1] := hc
        simp at hc; subst hc
        exact T.ok c (by rw [show (strI i).cps.toList = [c, c2] from hw]; simp)
      rw [eq_str false o1 (by decide +kernel)]
      have : ((⟨#[c1]⟩ : Str) == "0") = false := beq_eq_false_iff_ne.mpr fun q => hc (by
        have q2 : tl (⟨#[c1]⟩ : Str) = tl "0" := by rw [q]
        have q3 : tl ("0" : Str) = [48] := by decide +kernel
        rw [q3] at q2
        have q2 : [c1] = [48] := q2
        simpa using q2)
      rw [this]; rfl
    simp [hlen, hL, ech, hix, he, forS_cons, fb1_number_of, inStr, fig_len, g1, g2, int2, hint]
end Fw
set_option Elab.async false
set_option linter.all false
set_option maxRecDepth 100000
set_option maxHeartbeats 4000000
/-! S5: a town's rows of text. -/
namespace Fw
open PySem L2 TL
theorem str_len_app (x y : Str) : (x ++ y).length = x.length + y.length := by rw [len_tl, tl_append, List.length_append, ← len_tl, ← len_tl]
theorem add_str {x y : Str} (h : x.length + y.length ≤ 100000) : addD (.str x) (.str y) = some (.str (x ++ y)) := if_pos h
theorem str1_of {i : Int} (h : 0 ≤ i ∧ i ≤ 99) : str1 [.int i] = some (.str (strI i)) := if_pos (by omega)
theorem strsOf_map : ∀ ns : List Str, strsOf (ns.map D.str) = some ns
  | [] => rfl
  | n :: ns => by simp [strsOf, strOf, strsOf_map ns]
theorem join_cons (s x y : Str) (r : List Str) : Txt.join s (x :: y :: r) = x ++ s ++ Txt.join s (y :: r) := by rw [join_eq, join_eq]; rfl
theorem join_one (s x : Str) : Txt.join s [x] = x := by rw [join_eq]; rfl
theorem join_len (s : Str) : ∀ ys : List Str, (Txt.join s ys).length ≤ (ys.map (·.length)).sum + ys.length * s.length
  | [] => by
    rw [join_eq]
    have : (Str.join s []).length = 0 := rfl
    omega
  | [x] => by rw [join_one]; simp
  | x :: y :: r => by
    have ih := join_len s (y :: r)
    rw [join_cons, str_len_app, str_len_app]
    simp only [List.map_cons, List.sum_cons, List.length_cons] at ih ⊢
    rw [Nat.add_mul]
    omega
theorem join_of {s : Str} {ys : List Str} (h : (ys.map (·.length)).sum + ys.length * s.length ≤ 1000000) (z : Bool) : joinD s (.lst z (ys.map .str)) = some (.str (Txt.join s ys)) := by
  show ((strsOf (ys.map D.str)).bind _) = _
  rw [strsOf_map]
  exact if_pos h
@[simp] theorem ev_xM1 {o : Str → D → Option D} {f h : Fx D} {ρ : En} {b : Bx} : xM1 o f h ρ b = (f ρ b).bind fun d b1 => (match d with | .str a => (h ρ b1).bind fun c b2 => lift (o a c) b2 | _ => .bad) := rfl
def sJoin (r : List Int) : Str := Txt.join " " (r.map strI)
def lineD (p : Int × Int) : Str := ("dock " ++ strI p.1) ++ " " ++ strI p.2
def lineW (r : List Int) : Str := "way " ++ sJoin r
def lineC (t : TD) : Str := "cart " ++ sJoin [t.place, t.room, t.load]
def linesOf (t : TD) : List Str := t.docks.map lineD ++ t.ways.map lineW ++ [lineC t]
theorem sp_len : (" " : Str).length = 1 := by decide +kernel
theorem dock_len : ("dock " : Str).length = 5 := by decide +kernel
theorem way_len : ("way " : Str).length = 4 := by decide +kernel
theorem cart_len : ("cart " : Str).length = 5 := by decide +kernel
theorem nl_len : ("\n" : Str).length = 1 := by decide +kernel
theorem sum_strI {r : List Int} (h : ∀ x ∈ r, 0 ≤ x ∧ x ≤ 99) : ((r.map strI).map (·.length)).sum ≤ 2 * r.length := by
  induction r with
  | nil => simp
  | cons x r ih =>
    have h1 := (num_of (h x List.mem_cons_self)).l2
    have h2 := ih fun y hy => h y (List.mem_cons_of_mem _ hy)
    simp only [List.map_cons, List.sum_cons, List.length_cons]
    omega
theorem sJoin_ok {r : List Int} (h : ∀ x ∈ r, 0 ≤ x ∧ x ≤ 99) (hl : r.length ≤ 100) : joinD " " (.lst false ((r.map strI).map .str)) = some (.str (sJoin r)) ∧ (sJoin r).length ≤ 3 * r.length := by
  have h1 := sum_strI h
  have h2 := join_len " " (r.map strI)
  rw [sp_len] at h2
  simp only [List.length_map] at h2
  exact ⟨join_of (by rw [sp_len, List.length_map]; omega) false, by show (Txt.join " " (r.map strI)).length ≤ _; omega⟩
theorem lineD_len {p : Int × Int} (h1 : 0 ≤ p.1 ∧ p.1 ≤ 99) (h2 : 0 ≤ p.2 ∧ p.2 ≤ 99) : (lineD p).length ≤ 100 := by
  have := (num_of h1).l2
  have := (num_of h2).l2
  unfold lineD
  rw [str_len_app, str_len_app, str_len_app, dock_len, sp_len]
  omega
section
variable (c : Cs) {t : TD} (T : OkT 4 9 9 t)
theorem dk99 (T : OkT 4 9 9 t) {p : Int × Int} (hp : p ∈ t.docks) : (0 ≤ p.1 ∧ p.1 ≤ 99) ∧ 0 ≤ p.2 ∧ p.2 ≤ 99 := by
  have := T.dk p hp; omega
theorem wy99 (T : OkT 4 9 9 t) {r : List Int} (hr : r ∈ t.ways) : (∀ x ∈ r, 0 ≤ x ∧ x ≤ 99) ∧ r.length ≤ 4 ∧ 1 ≤ r.length := by
  obtain ⟨i, hi, e⟩ := List.getElem_of_mem hr
  have := T.wr i r (by rw [List.getElem?_eq_getElem hi, e])
  have h4 := T.n4
  have h1 := T.n1
  exact ⟨this.2.2, by omega, by omega⟩
theorem ct99 (T : OkT 4 9 9 t) : (∀ x ∈ [t.place, t.room, t.load], 0 ≤ x ∧ x ≤ 99) := by
  have h1 := T.pl
  have h2 := T.lr
  have h3 := T.n4
  intro x hx
  simp at hx
  rcases hx with rfl | rfl | rfl <;> omega
theorem dockElt {fe : Fx D} (he : fe = (xBin addD (xBin addD (xBin addD (xC (.str "dock ")) (xB str1 (xCons (xVar 1) xNil))) (xC (.str " "))) (xB str1 (xCons (xVar 2) xNil)))) {p : Int × Int} (h1 : 0 ≤ p.1 ∧ p.1 ≤ 99) (h2 : 0 ≤ p.2 ∧ p.2 ≤ 99) {ρ : En} {b : Bx} (hl : 3 ≤ ρ.length) :
    ∃ ρ1, pTup [pName 1, pName 2] (dPair p) ρ = some ρ1 ∧ fe ρ1 b = .ok (.str (lineD p)) b := by
  have n1 := (num_of h1).l2
  have n2 := (num_of h2).l2
  subst he
  refine ⟨_, rfl, ?_⟩
  have g1 : (("dock " : Str) ++ strI p.1).length ≤ 7 := by rw [str_len_app, dock_len]; omega
  have g2 : (("dock " : Str) ++ strI p.1 ++ " ").length ≤ 8 := by rw [str_len_app, sp_len]; omega
  simp [set_get, show 2 < ρ.length from by omega, show 1 < ρ.length from by omega, str1_of h1, str1_of h2, add_str (x := "dock ") (y := strI p.1) (by rw [dock_len]; omega), add_str (x := "dock " ++ strI p.1) (y := " ") (by rw [sp_len]; omega), add_str (x := "dock " ++ strI p.1 ++ " ") (y := strI p.2) (by omega), lineD]
end
end Fw
set_option Elab.async false
set_option linter.all false
set_option maxRecDepth 100000
set_option maxHeartbeats 4000000
/-! S6: what a town tells; its text; likeness. -/
namespace Fw
open PySem L2 TL
theorem getD_map {α : Type} (xs : List α) (F : α → D) : ((List.range xs.length).map fun j => (xs[j]?.map F).getD .non) = xs.map F := by
  apply List.ext_getElem?
  intro i
  rw [List.getElem?_map, List.getElem?_map]
  by_cases h : i < xs.length
  · rw [List.getElem?_range h]; simp [h]
  · rw [List.getElem?_eq_none (by simp; omega), List.getElem?_eq_none (by omega)]; rfl
theorem rng_of {p : Pat} {fe : Fx D} {ρ : En} {b : Bx} {n : Nat} (F : Nat → D) (h : ∀ j, j < n → ∃ ρ1, p (.int j) ρ = some ρ1 ∧ fe ρ1 b = .ok (F j) b) : compS p xYes fe ρ (rngD 0 n) b = .ok ((List.range n).map F) b := by
  unfold rngD
  refine comp_of (fun i : Nat => D.int (0 + (i : Int))) F fun j hj => ?_
  obtain ⟨ρ1, e1, e2⟩ := h j (List.mem_range.mp hj)
  exact ⟨ρ1, by rw [Int.zero_add]; exact e1, e2⟩
section
variable (c : Cs) {t : TD} (T : OkT 4 9 9 t) (b : Bx)
theorem made_ok (T : OkT 4 9 9 t) : F_Lmade c [dTown t] b = .rt (dTownI c t) b := by
  obtain ⟨ρ', e⟩ := init_ok c T (by decide) (by decide) false { b with fs := [], ds := [] } rfl rfl
  have h4 := T.n4
  have hw : t.ways.length ≤ 100000 := by have := T.wl; omega
  have f1 : ∀ (ρ : En) (b : Bx), ρ.length = 2 → compS (pName 1) xYes (el1_Lmade c) ρ (t.ways.map dRow) b = .ok (t.ways.map dRow) b := fun ρ b hl => comp_of dRow _ fun p _ => ⟨_, rfl, by simp [el1_Lmade, dRow, set_get, hl]⟩
  have c1 : cleanL (t.docks.map dPair) = true := cleanL_map fun _ => rfl
  have c2 : cleanL (t.ways.map dRow) = true := cleanL_map fun r => by simp [dRow, clean]
  have c3 : cleanL (t.docks.map fun p => D.int p.1) = true := cleanL_map fun _ => rfl
  have c4 : cleanL (t.docks.map fun p => D.int p.2) = true := cleanL_map fun _ => rfl
  have c5 : cleanL (t.ways.map tupR) = true := cleanL_map fun r => by simp [tupR, clean]
  simp only [dWays, dCart] at e
  simp [F_Lmade, k_Lmade, dTown, dDocks, dWays, dCart, f1, hw, e, cleanL, clean, c1, c2, dRooms, dFirst, dFar, c3, c4, c5, dTownI]
theorem many_ok : F_Town_many c [dTownI c t] b = .rt (.int t.docks.length) b := by
  simp [F_Town_many, k_Town_many, dTownI, dRooms]
theorem docks_ok (T : OkT 4 9 9 t) : F_Town_docks c [dTownI c t] b = .rto (t.docks.map dPair) b := by
  have h4 := T.n4
  have q2 : (-100000 : Int) ≤ t.docks.length := by omega
  have q3 : (t.docks.length : Int) ≤ 100000 := by omega
  have q4 : t.docks.length ≤ 100000 := by omega
  have hm := many_ok c (t := t) b
  simp only [dTownI] at hm
  have f1 := rng_of (p := pName 1) (fe := el1_Town_docks c) (ρ := [.val (dTownI c t), .no]) (b := b) (n := t.docks.length) (fun j => (t.docks[j]?.map dPair).getD .non) (fun j hj => ⟨_, rfl, by
    simp [el1_Town_docks, dTownI, dRooms, dFirst, atI_nat, hj, dPair]⟩)
  rw [getD_map] at f1
  simp only [dTownI] at f1
  simp [F_Town_docks, k_Town_docks, dTownI, hm, q2, q3, q4, rngD_len, f1]
theorem ways_ok (T : OkT 4 9 9 t) : F_Town_ways c [dTownI c t] b = .rto (t.ways.map dRow) b := by
  have h4 := T.n4
  have q4 : t.ways.length ≤ 100000 := by have := T.wl; omega
  have f1 : ∀ (ρ : En) (b : Bx), ρ.length = 2 → compS (pName 1) xYes (el1_Town_ways c) ρ (t.ways.map tupR) b = .ok (t.ways.map dRow) b := fun ρ b hl => comp_of tupR dRow fun p _ => ⟨_, rfl, by simp [el1_Town_ways, tupR, dRow, set_get, hl]⟩
  simp [F_Town_ways, k_Town_ways, dTownI, dFar, q4, f1]
theorem cart_ok : F_Town_cart c [dTownI c t] b = .rt (dCart t) b := by
  simp [F_Town_cart, k_Town_cart, dTownI, dCart]
/-- the loop over the ways' rows -/
theorem way_row {fb : Fs} {el : Fx D} (hel : el = (xB str1 (xCons (xVar 5) xNil))) (hfb : fb = (kApp 3 (xBin addD (xC (.str "way ")) (xM1 joinD (xC (.str " ")) (xLst (xComp (xSeq (xVar 4)) [5] (pName 5) xYes el)))))) {x0 x1 x2 x5 x6 x4 : Sl} {acc : List Str} {r : List Int} (h : ∀ x ∈ r, 0 ≤ x ∧ x ≤ 99) (hl : r.length ≤ 4) (ha : acc.length < 1000) :
    fb [x0, x1, x2, .own (acc.map .str), .val (dRow r), x5, x6] b = .nx [x0, x1, x2, .own ((acc ++ [lineW r]).map .str), .val (dRow r), x5, x6] b := by
  subst hel hfb
  obtain ⟨j1, j2⟩ := sJoin_ok h (by omega)
  have f1 : compS (pName 5) xYes (xB str1 (xCons (xVar 5) xNil)) [x0, x1, x2, .own (acc.map .str), .val (dRow r), .no, x6] (r.map .int) b = .ok ((r.map strI).map .str) b := by
    rw [List.map_map]
    exact comp_of D.int _ fun x hx => ⟨_, rfl, by simp [str1_of (h x hx)]⟩
  have g1 := add_str (x := "way ") (y := sJoin r) (by rw [way_len]; omega)
  simp only [dRow] at f1
  rw [List.map_map] at j1 f1
  simp [dRow, show r.length ≤ 100000 from by omega, f1, j1, g1, show acc.length < 100000 from by omega, lineW]
theorem rows_loop {fb : Fs} {el : Fx D} (hel : el = (xB str1 (xCons (xVar 5) xNil))) (hfb : fb = (kApp 3 (xBin addD (xC (.str "way ")) (xM1 joinD (xC (.str " ")) (xLst (xComp (xSeq (xVar 4)) [5] (pName 5) xYes el)))))) {x0 x1 x2 x5 x6 : Sl} {ws : List (List Int)} (h : ∀ r ∈ ws, (∀ x ∈ r, 0 ≤ x ∧ x ≤ 99) ∧ r.length ≤ 4 ∧ 1 ≤ r.length) (hw : ws.length ≤ 4) (x4 : Sl) (acc : List Str) (ha : acc.length ≤ 4) :
    ∃ x4', forS (pName 4) fb (ws.map dRow) [x0, x1, x2, .own (acc.map .str), x4, x5, x6] b = .nx [x0, x1, x2, .own ((acc ++ ws.map lineW).map .str), x4', x5, x6] b := by
  have key : ∀ (ws : List (List Int)) (x4 : Sl) (acc : List Str), (∀ r ∈ ws, (∀ x ∈ r, 0 ≤ x ∧ x ≤ 99) ∧ r.length ≤ 4 ∧ 1 ≤ r.length) → acc.length + ws.length ≤ 8 → ∃ x4', forS (pName 4) fb (ws.map dRow) [x0, x1, x2, .own (acc.map .str), x4, x5, x6] b = .nx [x0, x1, x2, .own ((acc ++ ws.map lineW).map .str), x4', x5, x6] b := by
    intro ws
    induction ws with
    | nil => intro x4 acc _ _; exact ⟨x4, by simp⟩
    | cons r ws ih =>
      intro x4 acc h hl
      obtain ⟨h1, h2, _⟩ := h r List.mem_cons_self
      simp only [List.length_cons] at hl
      obtain ⟨x4', e⟩ := ih (.val (dRow r)) (acc ++ [lineW r]) (fun q hq => h q (List.mem_cons_of_mem _ hq)) (by simp; omega)
      refine ⟨x4', ?_⟩
      rw [List.map_cons, forS_cons]
      have w := way_row b hel hfb (x0 := x0) (x1 := x1) (x2 := x2) (x5 := x5) (x6 := x6) (x4 := x4) (acc := acc) h1 h2 (by omega)
      simp only [ev_pName, List.set_cons_succ, List.set_cons_zero, w, e]
      simp [List.append_assoc]
  exact key ws x4 acc h (by omega)
theorem cart_elt {el : Fx D} (hel : el = (xB str1 (xCons (xVar 6) xNil))) (T : OkT 4 9 9 t) {x0 x1 x2 x3 x4 x5 : Sl} : compS (pName 6) xYes el [x0, x1, x2, x3, x4, x5, .no] [.int t.place, .int t.room, .int t.load] b = .ok (([t.place, t.room, t.load].map strI).map .str) b := by
  subst hel
  show compS _ _ _ _ ([t.place, t.room, t.load].map D.int) b = _
  rw [List.map_map]
  exact comp_of D.int _ fun x hx => ⟨_, rfl, by simp [str1_of (ct99 T x hx)]⟩
theorem lines_ok (T : OkT 4 9 9 t) : F_Llines c [dTown t] b = .rt (.lst false ((linesOf t).map .str)) b := by
  have h4 := T.n4
  have hwl := T.wl
  have q1 : t.docks.length ≤ 100000 := by omega
  have f1 : ∀ (ρ : En), 3 ≤ ρ.length → compS (pTup [pName 1, pName 2]) xYes (el1_Llines c) ρ (t.docks.map dPair) b = .ok ((t.docks.map lineD).map .str) b := fun ρ hl => by
    rw [List.map_map]
    exact comp_of dPair _ fun p hp => dockElt rfl (dk99 T hp).1 (dk99 T hp).2 hl
  obtain ⟨x4', e⟩ := rows_loop b (fb := fb1_Llines c) (el := el2_Llines c) rfl rfl (x0 := .val (dTown t)) (x1 := .no) (x2 := .no) (x5 := .no) (x6 := .no) (fun r hr => wy99 T hr) (by omega) .no (t.docks.map lineD) (by simp; omega)
  obtain ⟨j1, j2⟩ := sJoin_ok (ct99 T) (by simp)
  have g1 := add_str (x := "cart ") (y := sJoin [t.place, t.room, t.load]) (by rw [cart_len]; simp at j2; omega)
  have f3 := fun x3 => cart_elt b (el := el3_Llines c) rfl T (x0 := .val (dTown t)) (x1 := .no) (x2 := .no) (x3 := x3) (x4 := x4') (x5 := .no)
  have g2 : addD (.lst false ((t.docks.map lineD ++ t.ways.map lineW).map .str)) (.lst false [.str ("cart " ++ sJoin [t.place, t.room, t.load])]) = some (.lst false ((linesOf t).map .str)) := by
    show lim _ _ = _
    unfold lim
    rw [if_pos (by simp; omega)]
    simp [linesOf, lineC]
  have j1' : joinD " " (.lst false [.str (strI t.place), .str (strI t.room), .str (strI t.load)]) = some (.str (sJoin [t.place, t.room, t.load])) := j1
  simp only [List.map_append, List.map_map] at g2
  simp only [dTown, dDocks, dWays, dCart] at e f3 f1
  simp only [List.map_map] at f1 e f3
  simp [F_Llines, k_Llines, dTown, dDocks, dWays, dCart, q1, f1, e, f3, j1', g1, g2]
/-- a town's text -/
def textOf (t : TD) : Str := Txt.join "\n" (linesOf t)
theorem line_len (T : OkT 4 9 9 t) : ∀ l ∈ linesOf t, l.length ≤ 100 := by
  intro l hl
  unfold linesOf at hl
  rcases List.mem_append.mp hl with hl | hl
  · rcases List.mem_append.mp hl with hl | hl
    · obtain ⟨p, hp, rfl⟩ := List.mem_map.mp hl
      exact lineD_len (dk99 T hp).1 (dk99 T hp).2
    · obtain ⟨r, hr, rfl⟩ := List.mem_map.mp hl
      have := wy99 T hr
      have := (sJoin_ok this.1 (by omega)).2
      unfold lineW
      rw [str_len_app, way_len]
      omega
  · rw [List.mem_singleton.mp hl]
    have := (sJoin_ok (ct99 T) (by simp)).2
    unfold lineC
    rw [str_len_app, cart_len]
    simp at this
    omega
theorem lines_len (T : OkT 4 9 9 t) : (linesOf t).length ≤ 9 := by
  have h4 := T.n4
  have hwl := T.wl
  unfold linesOf
  simp
  omega
theorem sum_le {xs : List Nat} {m : Nat} (h : ∀ x ∈ xs, x ≤ m) : xs.sum ≤ xs.length * m := by
  induction xs with
  | nil => simp
  | cons x xs ih =>
    have h1 := h x List.mem_cons_self
    have h2 := ih fun y hy => h y (List.mem_cons_of_mem _ hy)
    rw [List.sum_cons, List.length_cons, Nat.add_mul]
    omega
theorem text_sz (T : OkT 4 9 9 t) : ((linesOf t).map (·.length)).sum + (linesOf t).length * ("\n" : Str).length ≤ 1000 := by
  have h1 := sum_le (xs := (linesOf t).map (·.length)) (m := 100) fun x hx => by
    obtain ⟨l, hl, rfl⟩ := List.mem_map.mp hx
    exact line_len T l hl
  have h2 := lines_len T
  rw [List.length_map] at h1
  have h3 := Nat.mul_le_mul_right 100 h2
  rw [nl_len]
  omega
theorem text_len (T : OkT 4 9 9 t) : (textOf t).length ≤ 1000 := Nat.le_trans (join_len "\n" (linesOf t)) (text_sz T)
theorem written_ok (T : OkT 4 9 9 t) : F_written c [dTownI c t] b = .rt (.str (textOf t)) b := by
  have h4 := T.n4
  have hwl := T.wl
  have q1 : t.docks.length ≤ 100000 := by omega
  have f1 : ∀ (ρ : En), 3 ≤ ρ.length → compS (pTup [pName 1, pName 2]) xYes (el1_written c) ρ (t.docks.map dPair) b = .ok ((t.docks.map lineD).map .str) b := fun ρ hl => by
    rw [List.map_map]
    exact comp_of dPair _ fun p hp => dockElt rfl (dk99 T hp).1 (dk99 T hp).2 hl
  obtain ⟨x4', e⟩ := rows_loop b (fb := fb1_written c) (el := el2_written c) rfl rfl (x0 := .val (dTownI c t)) (x1 := .no) (x2 := .no) (x5 := .no) (x6 := .no) (fun r hr => wy99 T hr) (by omega) .no (t.docks.map lineD) (by simp; omega)
  obtain ⟨j1, j2⟩ := sJoin_ok (ct99 T) (by simp)
  have g1 := add_str (x := "cart ") (y := sJoin [t.place, t.room, t.load]) (by rw [cart_len]; simp at j2; omega)
  have f3 := fun x3 => cart_elt b (el := el3_written c) rfl T (x0 := .val (dTownI c t)) (x1 := .no) (x2 := .no) (x3 := x3) (x4 := x4') (x5 := .no)
  have g2 : addD (.lst false ((t.docks.map lineD ++ t.ways.map lineW).map .str)) (.lst false [.str ("cart " ++ sJoin [t.place, t.room, t.load])]) = some (.lst false ((linesOf t).map .str)) := by
    show lim _ _ = _
    unfold lim
    rw [if_pos (by simp; omega)]
    simp [linesOf, lineC]
  have j1' : joinD " " (.lst false [.str (strI t.place), .str (strI t.room), .str (strI t.load)]) = some (.str (sJoin [t.place, t.room, t.load])) := j1
  have j3 := join_of (s := "\n") (ys := linesOf t) (Nat.le_trans (text_sz T) (by decide)) false
  have hd := docks_ok c b T
  have hw := ways_ok c b T
  have hc := cart_ok c (t := t) b
  simp only [List.map_append, List.map_map] at g2
  simp only [dTownI, dCart] at e f3 hd hw hc
  simp only [List.map_map] at f1 e f3
  simp [F_written, k_written, dTownI, dCart, hd, hw, hc, q1, f1, e, f3, j1', g1, g2, j3, textOf]
end
end Fw
set_option Elab.async false
set_option linter.all false
set_option maxRecDepth 100000
set_option maxHeartbeats 4000000
/-! S7: likeness. -/
namespace Fw
open PySem L2 TL
@[simp] theorem kit_NoneType_bool : kitB "NoneType" "bool" = some false := by decide +kernel
@[simp] theorem kit_NoneType_int : kitB "NoneType" "int" = some false := by decide +kernel
@[simp] theorem kit_NoneType_str : kitB "NoneType" "str" = some false := by decide +kernel
@[simp] theorem kit_NoneType_tuple : kitB "NoneType" "tuple" = some false := by decide +kernel
@[simp] theorem kit_NoneType_list : kitB "NoneType" "list" = some false := by decide +kernel
@[simp] theorem kit_bool_bool : kitB "bool" "bool" = some true := by decide +kernel
@[simp] theorem kit_bool_int : kitB "bool" "int" = some true := by decide +kernel
@[simp] theorem kit_bool_str : kitB "bool" "str" = some false := by decide +kernel
@[simp] theorem kit_bool_tuple : kitB "bool" "tuple" = some false := by decide +kernel
@[simp] theorem kit_bool_list : kitB "bool" "list" = some false := by decide +kernel
@[simp] theorem kit_int_bool : kitB "int" "bool" = some false := by decide +kernel
@[simp] theorem kit_int_int : kitB "int" "int" = some true := by decide +kernel
@[simp] theorem kit_int_str : kitB "int" "str" = some false := by decide +kernel
@[simp] theorem kit_int_tuple : kitB "int" "tuple" = some false := by decide +kernel
@[simp] theorem kit_int_list : kitB "int" "list" = some false := by decide +kernel
@[simp] theorem kit_str_bool : kitB "str" "bool" = some false := by decide +kernel
@[simp] theorem kit_str_int : kitB "str" "int" = some false := by decide +kernel
@[simp] theorem kit_str_str : kitB "str" "str" = some true := by decide +kernel
@[simp] theorem kit_str_tuple : kitB "str" "tuple" = some false := by decide +kernel
@[simp] theorem kit_str_list : kitB "str" "list" = some false := by decide +kernel
@[simp] theorem kit_tuple_bool : kitB "tuple" "bool" = some false := by decide +kernel
@[simp] theorem kit_tuple_int : kitB "tuple" "int" = some false := by decide +kernel
@[simp] theorem kit_tuple_str : kitB "tuple" "str" = some false := by decide +kernel
@[simp] theorem kit_tuple_tuple : kitB "tuple" "tuple" = some true := by decide +kernel
@[simp] theorem kit_tuple_list : kitB "tuple" "list" = some false := by decide +kernel
@[simp] theorem kit_list_bool : kitB "list" "bool" = some false := by decide +kernel
@[simp] theorem kit_list_int : kitB "list" "int" = some false := by decide +kernel
@[simp] theorem kit_list_str : kitB "list" "str" = some false := by decide +kernel
@[simp] theorem kit_list_tuple : kitB "list" "tuple" = some false := by decide +kernel
@[simp] theorem kit_list_list : kitB "list" "list" = some true := by decide +kernel
def okA : Nat → D → Bool
  | 0, _ => false
  | m + 1, d => match d with
    | .non => true
    | .bl _ => true
    | .int _ => true
    | .str x => PyData.strOk x
    | .tup xs => decide (xs.length ≤ 100000) && xs.all (okA m)
    | .lst _ xs => decide (xs.length ≤ 100000) && xs.all (okA m)
    | _ => false
@[simp] theorem isND_non (x : D) : isND x .non = some (.bl (match x with | .non => true | _ => false)) := rfl
theorem eq_bl (neg a b : Bool) : eqD neg (.bl a) (.bl b) = some (.bl (neg != (a == b))) := by
  simp [eqD, toPy, SeqAt.shaped, PyData.canLay0, PyData.depth, PyData.eqv]
theorem alike_refl (c : Cs) : ∀ (m : Nat) (d : D) (b : Bx), okA m d = true → F_Lalike m c [d, d] b = .rt (.bl true) b
  | 0, _, _, h => by cases h
  | m + 1, d, b, h => by
    have go : ∀ (xs : List D) (d : D), (∀ j, idxD d (.int (j : Nat)) = atI xs j) → lenD d = some (.int xs.length) → xs.length ≤ 100000 → (∀ x ∈ xs, okA m x = true) → ∃ x2, forS (pName 2) (fb1_Lalike c (F_Lalike m)) (rngD 0 xs.length) [.val d, .val d, .no] b = .nx [.val d, .val d, x2] b := by
      intro xs d hi hl hz ha
      obtain ⟨ρ', b', e, x2, hρ, hb⟩ := loop_inv (p := pName 2) (k := fb1_Lalike c (F_Lalike m)) (ds := rngD 0 xs.length) (b := b) (ρ := [.val d, .val d, .no])
        (fun _ ρ b1 => ∃ x2 : Sl, ρ = [.val d, .val d, x2] ∧ b1 = b)
        (by
          rintro j e ρ b1 hd ⟨x2, rfl, rfl⟩
          obtain ⟨rfl, hj⟩ := rngD_get hd
          have hx := alike_refl c m xs[j] b1 (ha _ (List.getElem_mem hj))
          refine ⟨_, [.val d, .val d, .val (.int j)], b1, rfl, ?_, _, rfl, rfl⟩
          simp [fb1_Lalike, hi, atI_nat, hj, hx])
        ⟨.no, rfl, rfl⟩
      subst hρ hb
      exact ⟨x2, e⟩
    unfold F_Lalike k_Lalike
    cases d with
    | non => simp
    | bl k => simp [isND, isiD, tyD, eq_bl]
    | int k => simp [isND, isiD, tyD]
    | str k => simp [isND, isiD, tyD, eq_str false h h]
    | tup xs =>
      have h : (decide (xs.length ≤ 100000) && xs.all (okA m)) = true := h
      rw [Bool.and_eq_true, decide_eq_true_eq, List.all_eq_true] at h
      obtain ⟨x2, e⟩ := go xs (.tup xs) (fun _ => rfl) rfl h.1 h.2
      have q1 : (-100000 : Int) ≤ xs.length := by omega
      have q2 : (xs.length : Int) ≤ 100000 := by omega
      simp [isND, isiD, tyD, eq_bl, q1, q2, e]
    | lst z xs =>
      have h : (decide (xs.length ≤ 100000) && xs.all (okA m)) = true := h
      rw [Bool.and_eq_true, decide_eq_true_eq, List.all_eq_true] at h
      obtain ⟨x2, e⟩ := go xs (.lst z xs) (fun _ => rfl) rfl h.1 h.2
      have q1 : (-100000 : Int) ≤ xs.length := by omega
      have q2 : (xs.length : Int) ≤ 100000 := by omega
      simp [isND, isiD, tyD, eq_bl, q1, q2, e]
    | _ => cases h
theorem okA_ints (m : Nat) (r : List Int) : (r.map D.int).all (okA (m + 1)) = true := by
  rw [List.all_eq_true]
  intro x hx
  obtain ⟨i, _, rfl⟩ := List.mem_map.mp hx
  rfl
theorem okA_town {t : TD} (T : OkT 4 9 9 t) : okA 6 (dTown t) = true := by
  have h4 := T.n4
  have hwl := T.wl
  have h1 : okA 5 (dDocks t) = true := by
    show (decide ((t.docks.map dPair).length ≤ 100000) && (t.docks.map dPair).all (okA 4)) = true
    rw [Bool.and_eq_true, decide_eq_true_eq, List.all_eq_true]
    refine ⟨by simp; omega, fun x hx => ?_⟩
    obtain ⟨p, _, rfl⟩ := List.mem_map.mp hx
    rfl
  have h2 : okA 5 (dWays t) = true := by
    show (decide ((t.ways.map dRow).length ≤ 100000) && (t.ways.map dRow).all (okA 4)) = true
    rw [Bool.and_eq_true, decide_eq_true_eq, List.all_eq_true]
    refine ⟨by simp; omega, fun x hx => ?_⟩
    obtain ⟨r, hr, rfl⟩ := List.mem_map.mp hx
    have := (wy99 T hr).2.1
    show (decide ((r.map D.int).length ≤ 100000) && (r.map D.int).all (okA 3)) = true
    rw [okA_ints, Bool.and_true, decide_eq_true_eq]
    simp; omega
  show (true && ((okA 5 (dDocks t)) && ((okA 5 (dWays t)) && ((okA 5 (dCart t)) && true)))) = true
  rw [h1, h2]
  rfl
end Fw
set_option Elab.async false
set_option linter.all false
set_option maxRecDepth 100000
set_option maxHeartbeats 4000000
/-! S8: a text read. -/
namespace Fw
open PySem L2 TL
theorem str_assoc (x y z : Str) : x ++ y ++ z = x ++ (y ++ z) := ext_tl (by rw [tl_append, tl_append, tl_append, tl_append, List.append_assoc])
abbrev Row := Str × List Int
def wordsOf (r : Row) : List Str := r.1 :: r.2.map strI
def lineOf (r : Row) : Str := Txt.join " " (wordsOf r)
def rowsOf (t : TD) : List Row := t.docks.map (fun p => (("dock" : Str), [p.1, p.2])) ++ t.ways.map (fun r => (("way" : Str), r)) ++ [(("cart" : Str), [t.place, t.room, t.load])]
theorem dock_sp : ("dock " : Str) = "dock" ++ " " := by decide +kernel
theorem way_sp : ("way " : Str) = "way" ++ " " := by decide +kernel
theorem cart_sp : ("cart " : Str) = "cart" ++ " " := by decide +kernel
theorem join2 (k : Str) {ns : List Int} (h : ns ≠ []) : lineOf (k, ns) = k ++ " " ++ sJoin ns := by
  cases ns with
  | nil => exact absurd rfl h
  | cons n r => exact join_cons " " k (strI n) (r.map strI)
theorem lines_eq {t : TD} (T : OkT 4 9 9 t) : linesOf t = (rowsOf t).map lineOf := by
  have e1 : t.docks.map lineD = t.docks.map (fun p => lineOf (("dock" : Str), [p.1, p.2])) := List.map_congr_left fun p hp => by
    rw [join2 _ (by simp)]
    unfold lineD sJoin
    rw [dock_sp, List.map_cons, List.map_cons, List.map_nil, join_cons, join_one]
    simp only [str_assoc]
  have e2 : t.ways.map lineW = t.ways.map (fun r => lineOf (("way" : Str), r)) := List.map_congr_left fun r hr => by
    have := (wy99 T hr).2.2
    rw [join2 _ (by intro q; rw [q] at this; simp at this)]
    unfold lineW
    rw [way_sp]
  have e3 : lineC t = lineOf (("cart" : Str), [t.place, t.room, t.load]) := by
    rw [join2 _ (by simp)]
    unfold lineC
    rw [cart_sp]
  unfold linesOf rowsOf
  rw [e1, e2, e3]
  simp [List.map_map, Function.comp_def]
theorem mem_joinL {s : Nat} {S : List Nat} : ∀ {ps : List (List Nat)}, s ∈ joinL S ps → s ∈ S ∨ ∃ p ∈ ps, s ∈ p
  | [], h => by cases h
  | [p], h => .inr ⟨p, List.mem_singleton.mpr rfl, h⟩
  | p :: q :: r, h => by
    have h : s ∈ p ++ (S ++ joinL S (q :: r)) := h
    rcases List.mem_append.mp h with h | h
    · exact .inr ⟨p, List.mem_cons_self, h⟩
    · rcases List.mem_append.mp h with h | h
      · exact .inl h
      · rcases mem_joinL h with h | ⟨x, hx, h⟩
        · exact .inl h
        · exact .inr ⟨x, List.mem_cons_of_mem _ hx, h⟩
structure RowOk (r : Row) : Prop where
  key : 32 ∉ tl r.1 ∧ 10 ∉ tl r.1
  num : ∀ x ∈ r.2, 0 ≤ x ∧ x ≤ 99
theorem word_free {r : Row} (h : RowOk r) : ∀ w ∈ wordsOf r, 32 ∉ tl w ∧ 10 ∉ tl w := by
  intro w hw
  rcases List.mem_cons.mp hw with rfl | hw
  · exact h.key
  · obtain ⟨x, hx, rfl⟩ := List.mem_map.mp hw
    have := num_of (h.num x hx)
    exact ⟨this.sp, this.nl⟩
theorem tl_sp : tl (" " : Str) = [32] := by decide +kernel
theorem tl_nl : tl ("\n" : Str) = [10] := by decide +kernel
theorem split_line {r : Row} (h : RowOk r) : Txt.split (lineOf r) " " = wordsOf r :=
  split_join tl_sp (by decide +kernel) (by simp [wordsOf]) fun w hw => (word_free h w hw).1
theorem line_nl {r : Row} (h : RowOk r) : 10 ∉ tl (lineOf r) := by
  unfold lineOf
  rw [join_eq, tl_join]
  intro q
  rcases mem_joinL q with q | ⟨p, hp, q⟩
  · rw [tl_sp] at q; simp at q
  · obtain ⟨w, hw, rfl⟩ := List.mem_map.mp hp
    exact (word_free h w hw).2 q
theorem rows_okT {t : TD} (T : OkT 4 9 9 t) : ∀ r ∈ rowsOf t, RowOk r := by
  intro r hr
  unfold rowsOf at hr
  rcases List.mem_append.mp hr with hr | hr
  · rcases List.mem_append.mp hr with hr | hr
    · obtain ⟨p, hp, rfl⟩ := List.mem_map.mp hr
      have := dk99 T hp
      refine ⟨(by decide +kernel : 32 ∉ tl ("dock" : Str) ∧ 10 ∉ tl ("dock" : Str)), fun x hx => ?_⟩
      simp at hx
      rcases hx with rfl | rfl
      · exact this.1
      · exact this.2
    · obtain ⟨q, hq, rfl⟩ := List.mem_map.mp hr
      exact ⟨(by decide +kernel : 32 ∉ tl ("way" : Str) ∧ 10 ∉ tl ("way" : Str)), (wy99 T hq).1⟩
  · rw [List.mem_singleton.mp hr]
    exact ⟨(by decide +kernel : 32 ∉ tl ("cart" : Str) ∧ 10 ∉ tl ("cart" : Str)), ct99 T⟩
theorem split_text {t : TD} (T : OkT 4 9 9 t) : Txt.split (textOf t) "\n" = (rowsOf t).map lineOf := by
  unfold textOf
  rw [lines_eq T]
  refine split_join tl_nl (by decide +kernel) (by unfold rowsOf; simp) fun w hw => ?_
  obtain ⟨r, hr, rfl⟩ := List.mem_map.mp hw
  exact line_nl (rows_okT T r hr)
theorem cut1 {α : Type} (x : α) (xs : List α) : cutL (x :: xs) (some 1) none = xs := by
  unfold cutL
  rw [show HT.sIx (x :: xs).length 0 (some 1) = 1 from by rw [show (1 : Int) = ((1 : Nat) : Int) from rfl, HT.sIx_nat]; simp]
  show ((x :: xs).drop 1).take ((x :: xs).length - 1) = xs
  simp

section
variable {ρ : En} {b : Bx} {i : Nat} {f h : Fx D} {fl : Fx (List D)}
@[simp] theorem ev_xSplit : xSplit f h ρ b = (f ρ b).bind fun d b1 => (match d with | .str a => (h ρ b1).bind fun c b2 => lift (splitD a c) b2 | _ => .bad) := rfl
@[simp] theorem ev_xTidx {ns : List Str} : xTidx ns f ρ b = (f ρ b).bind fun d b1 => (match d with | .str z => (match ns.findIdx? (fun y => decide (y = z)) with | some j => .ok (.int j) b1 | none => .bad) | _ => .bad) := rfl
@[simp] theorem ev_xDNil {neg : Bool} {key : Str} : xDNil neg i key ρ b = if isDls ρ i then (match getL b.fs b.ls key with | some ds => (match toPys ds with | some ps => if SeqAt.shaped (.list ps) = true then .ok (.bl (neg != ds.isEmpty)) b else .bad | none => .bad) | none => .bad) else .bad := rfl
@[simp] theorem ev_xDLen {key : Str} : xDLen i key ρ b = if isDls ρ i then (match getL b.fs b.ls key with | some ds => .ok (.int ds.length) b | none => .bad) else .bad := rfl
@[simp] theorem ev_kDApp : kDApp i f h ρ b = if isDls ρ i = true then (f ρ b).out fun kd b1 => (match kd with | .str key => (match getL b1.fs b1.ls key with | some _ => (h ρ b1).out fun d b2 => (match getL b2.fs b2.ls key with | some ds => if b2.fs = b1.fs ∧ ds.length < 100000 then .nx ρ { b2 with ls := appL b2.fs b2.ls key d } else .bad | none => .bad) | none => .bad) | _ => .bad) else .bad := by
  unfold kDApp
  split <;> rfl
@[simp] theorem ev_xSlc {l u : Fo} : xSlc f l u ρ b = (f ρ b).bind fun d b1 => (l ρ b1).bind fun lo b2 => (u ρ b2).bind fun hi b3 => lift (slcD d lo hi) b3 := rfl
@[simp] theorem ev_xSoP : xSoP f ρ b = (f ρ b).bind fun d b1 => lift ((intOf d).map some) b1 := rfl
@[simp] theorem ev_xNoP : xNoP ρ b = .ok none b := rfl
@[simp] theorem intOf_int (n : Int) : intOf (.int n) = some n := rfl
@[simp] theorem slc_lst (z : Bool) (xs : List D) (lo hi : Option Int) : slcD (.lst z xs) lo hi = some (.lst false (cutL xs lo hi)) := rfl
end
theorem sort_dock : inF true (.str "dock") (.tup [.str "dock", .str "way", .str "cart"]) = some (.bl false) := by rfl
theorem sort_way : inF true (.str "way") (.tup [.str "dock", .str "way", .str "cart"]) = some (.bl false) := by rfl
theorem sort_cart : inF true (.str "cart") (.tup [.str "dock", .str "way", .str "cart"]) = some (.bl false) := by rfl
theorem ix_dock : (["dock", "way", "cart"] : List Str).findIdx? (fun y => decide (y = ("dock" : Str))) = some 0 := by decide +kernel
theorem ix_way : (["dock", "way", "cart"] : List Str).findIdx? (fun y => decide (y = ("way" : Str))) = some 1 := by decide +kernel
theorem ix_cart : (["dock", "way", "cart"] : List Str).findIdx? (fun y => decide (y = ("cart" : Str))) = some 2 := by decide +kernel
@[simp] theorem nd1 : (("dock" : Str) = "way") = False := eq_false (by decide +kernel)
@[simp] theorem nd2 : (("dock" : Str) = "cart") = False := eq_false (by decide +kernel)
@[simp] theorem nd3 : (("way" : Str) = "cart") = False := eq_false (by decide +kernel)
@[simp] theorem nd4 : (("way" : Str) = "dock") = False := eq_false (by decide +kernel)
@[simp] theorem nd5 : (("cart" : Str) = "dock") = False := eq_false (by decide +kernel)
@[simp] theorem nd6 : (("cart" : Str) = "way") = False := eq_false (by decide +kernel)
def kinds : List Str := ["dock", "way", "cart"]
/-- the dict box's state -/
def bD (d w k : List D) : Bx := ⟨[], 0, ["dock", "way", "cart"], [], [], [d, w, k]⟩
theorem shaped_nil : SeqAt.shaped (.list []) = true := by decide
theorem sp_ne : ((" " : Str).length == 0) = false := by decide +kernel
/-- one row read -/
theorem row_step (c : Cs) {text : Sl} {ls : List Str} {j : Nat} {r : Row} (hr : ls[j]? = some (lineOf r)) (R : RowOk r) (hz : (lineOf r).length ≤ 1000) (hl : r.2.length ≤ 1000) {last kk : Nat} {d w : List D} {x5 x6 : Sl} {d' w' k' : List D} (hlast : last ≤ kk) (hd : d.length ≤ 1000)
    (h : (r.1 = "dock" ∧ kk = 0 ∧ r.2.length = 2 ∧ d' = d ++ [tupR r.2] ∧ w' = w ∧ k' = []) ∨ (r.1 = "way" ∧ kk = 1 ∧ r.2.length = d.length ∧ 1 ≤ r.2.length ∧ d' = d ∧ w' = w ++ [tupR r.2] ∧ k' = [] ∧ w.length ≤ 1000) ∨ (r.1 = "cart" ∧ kk = 2 ∧ r.2.length = 3 ∧ d' = d ∧ w' = w ∧ k' = [tupR r.2])) :
    ∃ x5' x6', fb1_read c [text, .val (.lst false (ls.map .str)), .val .dls, .val (.int last), .val (.int j), x5, x6] (bD d w []) = .nx [text, .val (.lst false (ls.map .str)), .val .dls, .val (.int kk), .val (.int j), x5', x6'] (bD d' w' k') := by
  have hj : j < ls.length := (List.getElem?_eq_some_iff.mp hr).1
  have hsp : splitD (lineOf r) (.str " ") = some ((wordsOf r).map .str) := by
    show (if _ then _ else _) = _
    rw [if_pos ⟨sp_ne, by omega⟩, split_line R]
  have fe : ∀ (a0 a1 a2 a3 a5 : Sl) (b : Bx), compS (pName 6) xYes (el1_read c) [a0, a1, a2, a3, .val (.int j), a5, .no] ((r.2.map strI).map .str) b = .ok (r.2.map .int) b := fun a0 a1 a2 a3 a5 b => by
    rw [List.map_map]
    refine comp_of _ D.int fun x hx => ⟨_, rfl, ?_⟩
    simp [el1_read, number_ok c (R.num x hx)]
  refine ⟨.val (.lst false ((wordsOf r).map .str)), x6, ?_⟩
  obtain ⟨key, ns⟩ := r
  simp only at *
  simp only [wordsOf, List.map_cons, List.map_map] at hsp fe ⊢
  rcases h with ⟨rfl, rfl, h3, rfl, rfl, rfl⟩ | ⟨rfl, rfl, h3, h4, rfl, rfl, rfl, h5⟩ | ⟨rfl, rfl, h3, rfl, rfl, rfl⟩
  · have hl0 : last = 0 := by omega
    subst hl0
    simp [fb1_read, atI_nat, hr, hsp, sort_dock, ix_dock, isDls, bD, getL, toPys, shaped_nil, h3, cut1, fe, appL, tupR, show d.length < 100000 from by omega]
  · have hl0 : ¬ ((1 : Int) < last) := by omega
    have hl1 : ¬ ((d'.length : Int) + 1 < 2) := by omega
    simp [fb1_read, atI_nat, hr, hsp, sort_way, ix_way, isDls, bD, getL, toPys, shaped_nil, h3, cut1, fe, appL, tupR, hl0, hl1, show d'.length ≤ 100000 from by omega, show w.length < 100000 from by omega]
  · have hl0 : ¬ ((2 : Int) < last) := by omega
    simp [fb1_read, atI_nat, hr, hsp, sort_cart, ix_cart, isDls, bD, getL, toPys, shaped_nil, h3, cut1, fe, appL, tupR, hl0]
end Fw
set_option Elab.async false
set_option linter.all false
set_option maxRecDepth 100000
set_option maxHeartbeats 4000000
/-! S9: a text read; the law. -/
namespace Fw
open PySem L2 TL
section
variable {ρ : En} {b : Bx} {i : Nat} {f h : Fx D} {fl : Fx (List D)}
@[simp] theorem ev_xUnD : xUnD i f ρ b = if isDls ρ i = true ∧ cleanL (b.ls.map (.lst true)) = true then (match f ((ρ.map fun _ => Sl.no).set i (.val (.dct b.fs (b.ls.map (.lst true))))) bx0 with | .ok d _ => if pureD d = true then .ok d b else .bad | _ => .bad) else .bad := rfl
@[simp] theorem ev_xDct {key : Str} : xDct f key ρ b = (f ρ b).bind fun x b1 => lift (dctD key x) b1 := rfl
@[simp] theorem ev_dctD {key : Str} {fs : List Str} {xs : List D} : dctD key (.dct fs xs) = fldD fs xs key := rfl
@[simp] theorem ev_kDls {ks : List Str} {kk : Fs} : kDls i ks kk ρ b = outBack b (kk ((cleanE ρ).set i (.val .dls)) (b3 ks)) := rfl
@[simp] theorem ev_outBack {d : D} {b2 : Bx} : outBack b (.rt d b2) = if clean d = true then .rt d b else .bad := rfl
end
theorem cleanL_strs (ns : List Str) : cleanL (ns.map D.str) = true := cleanL_map fun _ => rfl
theorem rows_len (t : TD) : (rowsOf t).length = t.docks.length + t.ways.length + 1 := by simp [rowsOf]; omega
theorem rows_dock {t : TD} {j : Nat} (h : j < t.docks.length) : (rowsOf t)[j]? = some (("dock" : Str), [t.docks[j].1, t.docks[j].2]) := by
  unfold rowsOf
  rw [List.getElem?_append_left (by simp; omega), List.getElem?_append_left (by simp; omega), List.getElem?_map, List.getElem?_eq_getElem h]
  rfl
theorem rows_way {t : TD} {j : Nat} (h : j < t.ways.length) : (rowsOf t)[t.docks.length + j]? = some (("way" : Str), t.ways[j]) := by
  unfold rowsOf
  rw [List.getElem?_append_left (by simp; omega), List.getElem?_append_right (by simp), List.length_map, Nat.add_sub_cancel_left, List.getElem?_map, List.getElem?_eq_getElem h]
  rfl
theorem rows_cart (t : TD) : (rowsOf t)[t.docks.length + t.ways.length]? = some (("cart" : Str), [t.place, t.room, t.load]) := by
  unfold rowsOf
  rw [List.getElem?_append_right (by simp)]
  simp
theorem take_next {α : Type} {xs : List α} {j : Nat} (h : j < xs.length) : xs.take (j + 1) = xs.take j ++ [xs[j]] := by
  rw [List.take_succ, List.getElem?_eq_getElem h]; rfl
theorem read_loop (c : Cs) {t : TD} (T : OkT 4 9 9 t) {text : Sl} : ∃ x4 x5 x6, forS (pName 4) (fb1_read c) (rngD 0 ((rowsOf t).map lineOf).length) [text, .val (.lst false (((rowsOf t).map lineOf).map .str)), .val .dls, .val (.int 0), .no, .no, .no] (bD [] [] []) =
    .nx [text, .val (.lst false (((rowsOf t).map lineOf).map .str)), .val .dls, .val (.int 2), x4, x5, x6] (bD (t.docks.map dPair) (t.ways.map tupR) [dCart t]) := by
  have h4 := T.n4
  have h1 := T.n1
  have hwl := T.wl
  have hlen := rows_len t
  obtain ⟨ρ', b', e, x4, x5, x6, last, hρ, hI⟩ := loop_inv (p := pName 4) (k := fb1_read c) (ds := rngD 0 ((rowsOf t).map lineOf).length) (b := bD [] [] []) (ρ := [text, .val (.lst false (((rowsOf t).map lineOf).map .str)), .val .dls, .val (.int 0), .no, .no, .no])
    (fun j ρ b => ∃ (x4 x5 x6 : Sl) (last : Nat), ρ = [text, .val (.lst false (((rowsOf t).map lineOf).map .str)), .val .dls, .val (.int last), x4, x5, x6] ∧
      ((j ≤ t.docks.length ∧ last = 0 ∧ b = bD ((t.docks.map dPair).take j) [] []) ∨ (t.docks.length < j ∧ j ≤ t.docks.length + t.ways.length ∧ last = 1 ∧ b = bD (t.docks.map dPair) ((t.ways.map tupR).take (j - t.docks.length)) []) ∨
        (j = t.docks.length + t.ways.length + 1 ∧ last = 2 ∧ b = bD (t.docks.map dPair) (t.ways.map tupR) [dCart t])))
    (by
      rintro j d ρ b hd ⟨x4, x5, x6, last, rfl, hI⟩
      obtain ⟨rfl, hj⟩ := rngD_get hd
      rw [List.length_map, hlen] at hj
      have lz : ∀ {r : Row}, r ∈ rowsOf t → (lineOf r).length ≤ 1000 := fun {r} hr => Nat.le_trans (line_len T _ (by rw [lines_eq T]; exact List.mem_map.mpr ⟨r, hr, rfl⟩)) (by decide)
      by_cases c1 : j < t.docks.length
      · have hr := rows_dock c1
        have hm := List.mem_of_getElem? hr
        obtain ⟨rfl, rfl⟩ : last = 0 ∧ b = bD ((t.docks.map dPair).take j) [] [] := by
          rcases hI with ⟨q1, q2, q3⟩ | ⟨q1, _⟩ | ⟨q1, _⟩
          · exact ⟨q2, q3⟩
          · omega
          · omega
        obtain ⟨x5', x6', e⟩ := row_step c (text := text) (ls := (rowsOf t).map lineOf) (j := j) (r := (("dock" : Str), [t.docks[j].1, t.docks[j].2])) (by rw [List.getElem?_map, hr]; rfl) (rows_okT T _ hm) (lz hm) (by simp) (last := 0) (kk := 0) (d := (t.docks.map dPair).take j) (w := []) (x5 := x5) (x6 := x6)
          (d' := (t.docks.map dPair).take (j + 1)) (w' := []) (k' := []) (Nat.le_refl _) (by simp; omega) (.inl ⟨rfl, rfl, rfl, by rw [take_next (by simpa using c1)]; simp [tupR, dPair], rfl, rfl⟩)
        exact ⟨_, _, _, rfl, e, _, _, _, 0, rfl, .inl ⟨by omega, rfl, rfl⟩⟩
      · by_cases c2 : j < t.docks.length + t.ways.length
        · obtain ⟨k, rfl⟩ : ∃ k, j = t.docks.length + k := ⟨j - t.docks.length, by omega⟩
          have hk : k < t.ways.length := by omega
          have hr := rows_way hk
          have hm := List.mem_of_getElem? hr
          have hlw := (wy99 T (List.getElem_mem hk))
          have hw1 := (T.wr k t.ways[k] (List.getElem?_eq_getElem hk)).1
          have go : ∀ last : Nat, last ≤ 1 → ∃ x5' x6', fb1_read c [text, .val (.lst false (((rowsOf t).map lineOf).map .str)), .val .dls, .val (.int last), .val (.int (t.docks.length + k : Nat)), x5, x6] (bD (t.docks.map dPair) ((t.ways.map tupR).take k) []) = .nx [text, .val (.lst false (((rowsOf t).map lineOf).map .str)), .val .dls, .val (.int (1 : Nat)), .val (.int (t.docks.length + k : Nat)), x5', x6'] (bD (t.docks.map dPair) ((t.ways.map tupR).take (k + 1)) []) := fun last hla =>
            row_step c (text := text) (ls := (rowsOf t).map lineOf) (r := (("way" : Str), t.ways[k])) (by rw [List.getElem?_map, hr]; rfl) (rows_okT T _ hm) (lz hm) (by show t.ways[k].length ≤ 1000; omega) (last := last) (kk := 1) (d := t.docks.map dPair) (w := (t.ways.map tupR).take k) (x5 := x5) (x6 := x6)
              (d' := t.docks.map dPair) (w' := (t.ways.map tupR).take (k + 1)) (k' := []) hla (by simp; omega) (.inr (.inl ⟨rfl, rfl, by simpa using hw1, hlw.2.2, rfl, by rw [take_next (by simpa using hk)]; simp, rfl, by simp; omega⟩))
          rcases hI with ⟨q1, rfl, rfl⟩ | ⟨q1, _, rfl, rfl⟩ | ⟨q1, _⟩
          · have hk0 : k = 0 := by omega
            subst hk0
            obtain ⟨x5', x6', e⟩ := go 0 (by decide)
            have eb : bD ((t.docks.map dPair).take (t.docks.length + 0)) [] [] = bD (t.docks.map dPair) ((t.ways.map tupR).take 0) [] := by
              rw [List.take_of_length_le (by simp)]; rfl
            rw [eb]
            exact ⟨_, _, _, rfl, e, _, _, _, 1, rfl, .inr (.inl ⟨by omega, by omega, rfl, by rw [show t.docks.length + 0 + 1 - t.docks.length = 0 + 1 from by omega]⟩)⟩
          · obtain ⟨x5', x6', e⟩ := go 1 (by decide)
            rw [show t.docks.length + k - t.docks.length = k from by omega]
            exact ⟨_, _, _, rfl, e, _, _, _, 1, rfl, .inr (.inl ⟨by omega, by omega, rfl, by rw [show t.docks.length + k + 1 - t.docks.length = k + 1 from by omega]⟩)⟩
          · omega
        · have hj2 : j = t.docks.length + t.ways.length := by omega
          subst hj2
          obtain ⟨rfl, rfl⟩ : last = 1 ∧ b = bD (t.docks.map dPair) ((t.ways.map tupR).take (t.docks.length + t.ways.length - t.docks.length)) [] := by
            rcases hI with ⟨q1, _⟩ | ⟨q1, _, q2, q3⟩ | ⟨q1, _⟩
            · omega
            · exact ⟨q2, q3⟩
            · omega
          have hr := rows_cart t
          have hm := List.mem_of_getElem? hr
          obtain ⟨x5', x6', e⟩ := row_step c (text := text) (ls := (rowsOf t).map lineOf) (j := t.docks.length + t.ways.length) (r := (("cart" : Str), [t.place, t.room, t.load])) (by rw [List.getElem?_map, hr]; rfl) (rows_okT T _ hm) (lz hm) (by simp) (last := 1) (kk := 2) (d := t.docks.map dPair) (w := t.ways.map tupR) (x5 := x5) (x6 := x6)
            (d' := t.docks.map dPair) (w' := t.ways.map tupR) (k' := [dCart t]) (by decide) (by simp; omega) (.inr (.inr ⟨rfl, rfl, rfl, rfl, rfl, rfl⟩))
          rw [List.take_of_length_le (show (t.ways.map tupR).length ≤ _ by simp)]
          exact ⟨_, _, _, rfl, e, _, _, _, 2, rfl, .inr (.inr ⟨rfl, rfl, rfl⟩)⟩)
    ⟨.no, .no, .no, 0, rfl, .inl ⟨by omega, rfl, rfl⟩⟩
  subst hρ
  rw [rngD_len, List.length_map, hlen] at hI
  rcases hI with ⟨q1, _⟩ | ⟨q1, q2, _⟩ | ⟨q1, rfl, rfl⟩
  · omega
  · omega
  · exact ⟨x4, x5, x6, e⟩
end Fw
set_option Elab.async false
set_option linter.all false
set_option maxRecDepth 100000
set_option maxHeartbeats 4000000
/-! S10: a text read; the law. -/
namespace Fw
open PySem L2 TL
theorem pureL_map {α : Type} {xs : List α} {g : α → D} (h : ∀ x, pureD (g x) = true) : pureL (xs.map g) = true := by
  induction xs with
  | nil => rfl
  | cons n ns ih => simp [pureL, h, ih]
theorem clean_townI (c : Cs) (t : TD) : clean (dTownI c t) = true := by
  have c3 : cleanL (t.docks.map fun p => D.int p.1) = true := cleanL_map fun _ => rfl
  have c4 : cleanL (t.docks.map fun p => D.int p.2) = true := cleanL_map fun _ => rfl
  have c5 : cleanL (t.ways.map tupR) = true := cleanL_map fun r => by simp [tupR, clean]
  simp [dTownI, clean, cleanL, dRooms, dFirst, dFar, c3, c4, c5]
theorem pure_townI (c : Cs) (t : TD) : pureD (dTownI c t) = true := by
  have c3 : pureL (t.docks.map fun p => D.int p.1) = true := pureL_map fun _ => rfl
  have c4 : pureL (t.docks.map fun p => D.int p.2) = true := pureL_map fun _ => rfl
  have c5 : pureL (t.ways.map tupR) = true := pureL_map fun r => pureL_map (xs := r) fun _ => rfl
  simp [dTownI, pureD, pureL, dRooms, dFirst, dFar, c3, c4, c5]
theorem nl_ne : (("\n" : Str).length == 0) = false := by decide +kernel
theorem read_ok (c : Cs) {t : TD} (T : OkT 4 9 9 t) (b : Bx) : F_read c [.str (textOf t)] b = .rt (dTownI c t) b := by
  have hsp : splitD (textOf t) (.str "\n") = some (((rowsOf t).map lineOf).map .str) := by
    show (if _ then _ else _) = _
    rw [if_pos ⟨nl_ne, by have := text_len T; omega⟩, split_text T]
  have h4 := T.n4
  have hwl := T.wl
  have hlen := rows_len t
  obtain ⟨x4, x5, x6, e⟩ := read_loop c T (text := .val (.str (textOf t)))
  obtain ⟨ρ', ei⟩ := init_ok c T (by decide) (by decide) true { bx0 with fs := [], ds := [] } rfl rfl
  have c1 : cleanL (t.docks.map dPair) = true := cleanL_map fun _ => rfl
  have c2 : cleanL (t.ways.map dRow) = true := cleanL_map fun r => by simp [dRow, clean]
  have c5 : cleanL (t.ways.map tupR) = true := cleanL_map fun r => by simp [tupR, clean]
  have fw : ∀ (a0 a1 a2 a3 a5 a6 : Sl) (b : Bx), compS (pName 4) xYes (el2_read c) [a0, a1, a2, a3, .no, a5, a6] (t.ways.map tupR) b = .ok (t.ways.map dRow) b := fun a0 a1 a2 a3 a5 a6 b => comp_of tupR dRow fun r _ => ⟨_, rfl, by simp [el2_read, tupR, dRow]⟩
  have hz : (rowsOf t).length ≤ 100000 := by omega
  have q1 : ((rowsOf t).length : Int) ≤ 100000 := by omega
  have q2 : (-100000 : Int) ≤ ((rowsOf t).length : Int) := by omega
  have hs : ∃ ps, toPys [dCart t] = some ps ∧ SeqAt.shaped (.list ps) = true := ⟨_, rfl, by simp [SeqAt.shaped, PyData.canLay0, PyData.canLayAll0, PyData.depth, PyData.depthAll]⟩
  obtain ⟨ps, hp1, hp2⟩ := hs
  have ct := clean_townI c t
  have pt := pure_townI c t
  have cs1 : clean (.lst false (((rowsOf t).map lineOf).map .str)) = true := cleanL_strs _
  simp only [List.map_map] at e hsp cs1
  simp only [List.length_map] at e
  simp only [dWays] at ei
  unfold F_read k_read
  have cs2 : cleanL ((rowsOf t).map (D.str ∘ lineOf)) = true := cleanL_map fun _ => rfl
  have cc : cleanL [dCart t] = true := rfl
  have hw : t.ways.length ≤ 100000 := by omega
  simp [hsp, cleanE, cleanS, clean, cs2, b3, bD] at e ⊢
  simp [cs2, q1, q2, e, isDls, getL, hp1, hp2, clean, cleanL, c1, c2, c5, fw, hw, cc, bx0] at ei ⊢
  have cd : clean (dCart t) = true := rfl
  have ct2 : cleanL [dRooms t, dFirst t, dFar t, .int t.place, .int t.room, .int t.load] = true := ct
  have pt2 : pureD (.ins c.Town tNames [dRooms t, dFirst t, dFar t, .int t.place, .int t.room, .int t.load]) = true := pt
  have ct3 : clean (.ins c.Town tNames [dRooms t, dFirst t, dFar t, .int t.place, .int t.room, .int t.load]) = true := ct
  simp [cd, ei, ct2, pt2, ct3, dTownI]
theorem okA_text {t : TD} (T : OkT 4 9 9 t) : PyData.strOk (textOf t) = true := by
  refine strOk_of fun c hc => ?_
  unfold textOf at hc
  rw [lines_eq T, join_eq] at hc
  have hc : c ∈ tl (Str.join "\n" ((rowsOf t).map lineOf)) := hc
  rw [tl_join] at hc
  have key : ∀ w : Str, (w = "dock" ∨ w = "way" ∨ w = "cart") → ∀ c ∈ tl w, c < 256 := by
    rintro w (rfl | rfl | rfl) <;> decide +kernel
  rcases mem_joinL hc with q | ⟨p, hp, q⟩
  · rw [tl_nl] at q; simp at q; omega
  · obtain ⟨l, hl, rfl⟩ := List.mem_map.mp hp
    obtain ⟨r, hr, rfl⟩ := List.mem_map.mp hl
    unfold lineOf at q
    rw [join_eq, tl_join] at q
    rcases mem_joinL q with q | ⟨p, hp, q⟩
    · rw [tl_sp] at q; simp at q; omega
    · obtain ⟨w, hw, rfl⟩ := List.mem_map.mp hp
      rcases List.mem_cons.mp hw with rfl | hw
      · refine key r.1 ?_ c q
        unfold rowsOf at hr
        rcases List.mem_append.mp hr with hr | hr
        · rcases List.mem_append.mp hr with hr | hr
          · obtain ⟨p, _, rfl⟩ := List.mem_map.mp hr; exact .inl rfl
          · obtain ⟨p, _, rfl⟩ := List.mem_map.mp hr; exact .inr (.inl rfl)
        · rw [List.mem_singleton.mp hr]; exact .inr (.inr rfl)
      · obtain ⟨x, hx, rfl⟩ := List.mem_map.mp hw
        exact (num_of ((rows_okT T r hr).num x hx)).ok c q
@[simp] theorem ev_kBegun {i j : Nat} {F : FD} {kk : Fs} {ρ : En} {b : Bx} : kBegun i j F kk ρ b = (match ρ[j]? with
  | some (.val (.sql ds)) => (match intsOf ds, F [.sql ds] bx0 with
    | some _, .rto [.lst false ns, .int st] _ => (match intsOf ns with
      | some is => outBack b (kk ((cleanE ρ).set i (.val .box)) ⟨is, st, [], [], [], []⟩)
      | none => .bad)
    | _, _ => .bad)
  | _ => .bad) := rfl
theorem law_row (c : Cs) {t : TD} (T : OkT 4 9 9 t) {x0 x1 x2 x3 x5 x6 : Sl} (b : Bx) : ∃ x5' x6', fb1_law c [x0, x1, x2, x3, .val (dTown t), x5, x6] b = .nx [x0, x1, x2, x3, .val (dTown t), x5', x6'] b := by
  have h1 := lines_ok c b T
  have h2 := made_ok c b T
  have h3 := written_ok c b T
  have h4 := alike_refl c 6 (.str (textOf t)) b (okA_text T)
  have h5 := read_ok c T b
  have h6 := docks_ok c b T
  have h7 := ways_ok c b T
  have h8 := cart_ok c (t := t) b
  have h9 := alike_refl c 6 (dTown t) b (okA_town T)
  have j3 := join_of (s := "\n") (ys := linesOf t) (Nat.le_trans (text_sz T) (by decide)) false
  have j4 : joinD "\n" (.lst false ((linesOf t).map .str)) = some (.str (textOf t)) := j3
  refine ⟨.val (.str (textOf t)), .val (dTownI c t), ?_⟩
  simp only [dTownI] at h2 h3 h5 h6 h7 h8
  simp only [dTown, dDocks, dWays] at h1 h2 h9
  simp [fb1_law, dTown, dDocks, dWays, h1, h2, h3, h4, h5, h6, h7, h8, h9, j4, dTownI]
theorem law_holds (c : Cs) (ns : List Int) (hl : ns.length ≤ 1000) : ∃ b', F_law c [.sql (ns.map .int)] bx0 = .rt (.bl true) b' := by
  obtain ⟨st, e0⟩ := begun_ok c ns hl bx0
  obtain ⟨t1, b1, e1, T1⟩ := town_ok c (most := 4) (rm := 9) (ld := 9) (by decide) (by decide) (by decide) ⟨ns, st, [], [], [], []⟩
  obtain ⟨t2, b2, e2, T2⟩ := town_ok c (most := 4) (rm := 9) (ld := 9) (by decide) (by decide) (by decide) b1
  have cq : clean (.sql (ns.map .int)) = true := cleanL_ints ns
  have r1 := fun x5 x6 => law_row c T1 (x0 := .val (.sql (ns.map .int))) (x1 := .val .box) (x2 := .val (dTown t1)) (x3 := .val (dTown t2)) (x5 := x5) (x6 := x6) b2
  have r2 := fun x5 x6 => law_row c T2 (x0 := .val (.sql (ns.map .int))) (x1 := .val .box) (x2 := .val (dTown t1)) (x3 := .val (dTown t2)) (x5 := x5) (x6 := x6) b2
  obtain ⟨a5, a6, g1⟩ := r1 .no .no
  obtain ⟨c5, c6, g2⟩ := r2 a5 a6
  obtain ⟨d5, d6, g3⟩ := r1 c5 c6
  refine ⟨bx0, ?_⟩
  simp [F_law, k_law, intsOf_map, e0, cleanE, cleanS, cq, e1, e2, forS_cons, g1, g2, g3, clean]
end Fw
set_option Elab.async false
set_option linter.all false
set_option maxRecDepth 100000
set_option maxHeartbeats 4000000
namespace Fw
open PySem PySem.Spec PyProof.Rows L2
def spL (K : PySem.W.Frag) : Sp := fun vs H Q _ => ∃ (a : Addr) (ns : List Int), vs = [.ref a] ∧ ns.length ≤ 63 ∧ SqL K H a (ns.map V.int) ∧ ∀ H', Q (.bl true) H'
theorem spL_imp (K : PySem.W.Frag) (c : Cs) (vs : List V) (H : Hp) (Q : VK) (E : XK) (h : spL K vs H Q E) : spD K 1 (F_law c) vs H Q E := by
  obtain ⟨a, ns, rfl, hl, hS, q⟩ := h
  obtain ⟨b', e⟩ := law_holds c ns (by omega)
  refine ⟨rfl, .no, fun _ => false, [.sql (ns.map .int)], bx0, H, Same.refl _, fun _ z => (Bool.false_ne_true z).elim, trivial, .cons (.sql hS (IsL.ints ns)) .nil, ?_⟩
  rw [e]
  intro v H0' H' t B iv
  cases iv
  exact q H'
theorem all_mk {l : PySem.W.OpenLaw} {w : World} {K : PySem.W.Frag} {h : Heap} {mg : Str → Option Value} {fa C_Town f_must_be f_Town_many f_Town_init f_Town_docks f_Town_ways f_Town_cart f_Lbegun f_Ltake f_Lalike f_Ltown f_Lmade f_Llines f_written f_number_of f_read f_law q_SORTS : Addr} (X : K.In h) (G : h.Ns mainGlobals mg) (hfa : mg "law" = some (.ref fa))
    {od_must_be an_must_be : Option Addr} {sl_must_be : Array (Option Value)} {oc_must_be kV_must_be dc_must_be pm_must_be cd_must_be ct_must_be : Value}
    {od_Town_many an_Town_many : Option Addr} {sl_Town_many : Array (Option Value)} {oc_Town_many kV_Town_many dc_Town_many pm_Town_many cd_Town_many ct_Town_many : Value}
    {od_Town_init an_Town_init : Option Addr} {sl_Town_init : Array (Option Value)} {oc_Town_init kV_Town_init dc_Town_init pm_Town_init cd_Town_init ct_Town_init : Value}
    {od_Town_docks an_Town_docks : Option Addr} {sl_Town_docks : Array (Option Value)} {oc_Town_docks kV_Town_docks dc_Town_docks pm_Town_docks cd_Town_docks ct_Town_docks : Value}
    {od_Town_ways an_Town_ways : Option Addr} {sl_Town_ways : Array (Option Value)} {oc_Town_ways kV_Town_ways dc_Town_ways pm_Town_ways cd_Town_ways ct_Town_ways : Value}
    {od_Town_cart an_Town_cart : Option Addr} {sl_Town_cart : Array (Option Value)} {oc_Town_cart kV_Town_cart dc_Town_cart pm_Town_cart cd_Town_cart ct_Town_cart : Value}
    {od_Lbegun an_Lbegun : Option Addr} {sl_Lbegun : Array (Option Value)} {oc_Lbegun kV_Lbegun dc_Lbegun pm_Lbegun cd_Lbegun ct_Lbegun : Value}
    {od_Ltake an_Ltake : Option Addr} {sl_Ltake : Array (Option Value)} {oc_Ltake kV_Ltake dc_Ltake pm_Ltake cd_Ltake ct_Ltake : Value}
    {od_Lalike an_Lalike : Option Addr} {sl_Lalike : Array (Option Value)} {oc_Lalike kV_Lalike dc_Lalike pm_Lalike cd_Lalike ct_Lalike : Value}
    {od_Ltown an_Ltown : Option Addr} {sl_Ltown : Array (Option Value)} {oc_Ltown kV_Ltown dc_Ltown pm_Ltown cd_Ltown ct_Ltown : Value}
    {od_Lmade an_Lmade : Option Addr} {sl_Lmade : Array (Option Value)} {oc_Lmade kV_Lmade dc_Lmade pm_Lmade cd_Lmade ct_Lmade : Value}
    {od_Llines an_Llines : Option Addr} {sl_Llines : Array (Option Value)} {oc_Llines kV_Llines dc_Llines pm_Llines cd_Llines ct_Llines : Value}
    {od_written an_written : Option Addr} {sl_written : Array (Option Value)} {oc_written kV_written dc_written pm_written cd_written ct_written : Value}
    {od_number_of an_number_of : Option Addr} {sl_number_of : Array (Option Value)} {oc_number_of kV_number_of dc_number_of pm_number_of cd_number_of ct_number_of : Value}
    {od_read an_read : Option Addr} {sl_read : Array (Option Value)} {oc_read kV_read dc_read pm_read cd_read ct_read : Value}
    {od_law an_law : Option Addr} {sl_law : Array (Option Value)} {oc_law kV_law dc_law pm_law cd_law ct_law : Value}
    {t_MOST_DOCKS : Tok}
    {t_MOST_ROOM : Tok}
    {t_MOST_WAY : Tok}
    {t0_SORTS t1_SORTS t2_SORTS : Tok} {n_SORTS : Nat} {sl_SORTS : Array (Option Value)}
    {t_FIGURES : Tok}
    (aC_Town : PySem.W.nsIn K mainGlobals "Town" = some (some (.ref C_Town)))
    (pg_Town : PySem.W.plainGet K C_Town Str.empty = true)
    (hd_Town : PySem.W.hasDictIn K C_Town = true)
    (po_Town : PySem.W.plainOver K C_Town = true)
    (sa_Town : PySem.W.findIn K (.ref C_Town) "__setattr__" = some (some (.builtin "object.__setattr__")))
    (mk_Town : PySem.W.makesIn K C_Town = true)
    (kc_Town : PySem.W.keepIn K (.ref C_Town) = true)
    (n_Town_rooms : PySem.W.findIn K (.ref C_Town) "rooms" = some none)
    (n_Town_first : PySem.W.findIn K (.ref C_Town) "first" = some none)
    (n_Town_far : PySem.W.findIn K (.ref C_Town) "far" = some none)
    (n_Town_at : PySem.W.findIn K (.ref C_Town) "at" = some none)
    (n_Town_cart_room : PySem.W.findIn K (.ref C_Town) "cart_room" = some none)
    (n_Town_load : PySem.W.findIn K (.ref C_Town) "load" = some none)
    (a_must_be : PySem.W.nsIn K mainGlobals "must_be" = some (some (.ref f_must_be)))
    (l_must_be : K.lookup f_must_be = some ⟨oc_must_be, od_must_be, .func (PySem.W.fnOf "must_be" "must_be" (defArgs s_must_be) (defBody s_must_be) (defScope s_must_be) .none kV_must_be dc_must_be pm_must_be an_must_be cd_must_be ct_must_be), sl_must_be⟩)
    (c_must_be : PySem.W.codeIn K cd_must_be "must_be" = true)
    (k_must_be : PySem.W.keepIn K (.ref f_must_be) = true)
    (a_Town_many : PySem.W.findIn K (.ref C_Town) "many" = some (some (.ref f_Town_many)))
    (i_Town_many : PySem.W.isFn K (.ref f_Town_many) = true)
    (l_Town_many : K.lookup f_Town_many = some ⟨oc_Town_many, od_Town_many, .func (PySem.W.fnOf "many" "Town.many" (defArgs s_Town_many) (defBody s_Town_many) (defScope s_Town_many) .none kV_Town_many dc_Town_many pm_Town_many an_Town_many cd_Town_many ct_Town_many), sl_Town_many⟩)
    (c_Town_many : PySem.W.codeIn K cd_Town_many "Town.many" = true)
    (k_Town_many : PySem.W.keepIn K (.ref f_Town_many) = true)
    (a_Town_init : PySem.W.findIn K (.ref C_Town) "__init__" = some (some (.ref f_Town_init)))
    (i_Town_init : PySem.W.isFn K (.ref f_Town_init) = true)
    (l_Town_init : K.lookup f_Town_init = some ⟨oc_Town_init, od_Town_init, .func (PySem.W.fnOf "__init__" "Town.__init__" (defArgs s_Town_init) (defBody s_Town_init) (defScope s_Town_init) .none kV_Town_init dc_Town_init pm_Town_init an_Town_init cd_Town_init ct_Town_init), sl_Town_init⟩)
    (c_Town_init : PySem.W.codeIn K cd_Town_init "Town.__init__" = true)
    (k_Town_init : PySem.W.keepIn K (.ref f_Town_init) = true)
    (a_Town_docks : PySem.W.findIn K (.ref C_Town) "docks" = some (some (.ref f_Town_docks)))
    (i_Town_docks : PySem.W.isFn K (.ref f_Town_docks) = true)
    (l_Town_docks : K.lookup f_Town_docks = some ⟨oc_Town_docks, od_Town_docks, .func (PySem.W.fnOf "docks" "Town.docks" (defArgs s_Town_docks) (defBody s_Town_docks) (defScope s_Town_docks) .none kV_Town_docks dc_Town_docks pm_Town_docks an_Town_docks cd_Town_docks ct_Town_docks), sl_Town_docks⟩)
    (c_Town_docks : PySem.W.codeIn K cd_Town_docks "Town.docks" = true)
    (k_Town_docks : PySem.W.keepIn K (.ref f_Town_docks) = true)
    (a_Town_ways : PySem.W.findIn K (.ref C_Town) "ways" = some (some (.ref f_Town_ways)))
    (i_Town_ways : PySem.W.isFn K (.ref f_Town_ways) = true)
    (l_Town_ways : K.lookup f_Town_ways = some ⟨oc_Town_ways, od_Town_ways, .func (PySem.W.fnOf "ways" "Town.ways" (defArgs s_Town_ways) (defBody s_Town_ways) (defScope s_Town_ways) .none kV_Town_ways dc_Town_ways pm_Town_ways an_Town_ways cd_Town_ways ct_Town_ways), sl_Town_ways⟩)
    (c_Town_ways : PySem.W.codeIn K cd_Town_ways "Town.ways" = true)
    (k_Town_ways : PySem.W.keepIn K (.ref f_Town_ways) = true)
    (a_Town_cart : PySem.W.findIn K (.ref C_Town) "cart" = some (some (.ref f_Town_cart)))
    (i_Town_cart : PySem.W.isFn K (.ref f_Town_cart) = true)
    (l_Town_cart : K.lookup f_Town_cart = some ⟨oc_Town_cart, od_Town_cart, .func (PySem.W.fnOf "cart" "Town.cart" (defArgs s_Town_cart) (defBody s_Town_cart) (defScope s_Town_cart) .none kV_Town_cart dc_Town_cart pm_Town_cart an_Town_cart cd_Town_cart ct_Town_cart), sl_Town_cart⟩)
    (c_Town_cart : PySem.W.codeIn K cd_Town_cart "Town.cart" = true)
    (k_Town_cart : PySem.W.keepIn K (.ref f_Town_cart) = true)
    (a_Lbegun : PySem.W.nsIn K mainGlobals "_law_begun" = some (some (.ref f_Lbegun)))
    (l_Lbegun : K.lookup f_Lbegun = some ⟨oc_Lbegun, od_Lbegun, .func (PySem.W.fnOf "_law_begun" "_law_begun" (defArgs s_Lbegun) (defBody s_Lbegun) (defScope s_Lbegun) .none kV_Lbegun dc_Lbegun pm_Lbegun an_Lbegun cd_Lbegun ct_Lbegun), sl_Lbegun⟩)
    (c_Lbegun : PySem.W.codeIn K cd_Lbegun "_law_begun" = true)
    (k_Lbegun : PySem.W.keepIn K (.ref f_Lbegun) = true)
    (a_Ltake : PySem.W.nsIn K mainGlobals "_law_take" = some (some (.ref f_Ltake)))
    (l_Ltake : K.lookup f_Ltake = some ⟨oc_Ltake, od_Ltake, .func (PySem.W.fnOf "_law_take" "_law_take" (defArgs s_Ltake) (defBody s_Ltake) (defScope s_Ltake) .none kV_Ltake dc_Ltake pm_Ltake an_Ltake cd_Ltake ct_Ltake), sl_Ltake⟩)
    (c_Ltake : PySem.W.codeIn K cd_Ltake "_law_take" = true)
    (k_Ltake : PySem.W.keepIn K (.ref f_Ltake) = true)
    (a_Lalike : PySem.W.nsIn K mainGlobals "_law_alike" = some (some (.ref f_Lalike)))
    (l_Lalike : K.lookup f_Lalike = some ⟨oc_Lalike, od_Lalike, .func (PySem.W.fnOf "_law_alike" "_law_alike" (defArgs s_Lalike) (defBody s_Lalike) (defScope s_Lalike) .none kV_Lalike dc_Lalike pm_Lalike an_Lalike cd_Lalike ct_Lalike), sl_Lalike⟩)
    (c_Lalike : PySem.W.codeIn K cd_Lalike "_law_alike" = true)
    (k_Lalike : PySem.W.keepIn K (.ref f_Lalike) = true)
    (a_Ltown : PySem.W.nsIn K mainGlobals "_law_town" = some (some (.ref f_Ltown)))
    (l_Ltown : K.lookup f_Ltown = some ⟨oc_Ltown, od_Ltown, .func (PySem.W.fnOf "_law_town" "_law_town" (defArgs s_Ltown) (defBody s_Ltown) (defScope s_Ltown) .none kV_Ltown dc_Ltown pm_Ltown an_Ltown cd_Ltown ct_Ltown), sl_Ltown⟩)
    (c_Ltown : PySem.W.codeIn K cd_Ltown "_law_town" = true)
    (k_Ltown : PySem.W.keepIn K (.ref f_Ltown) = true)
    (a_Lmade : PySem.W.nsIn K mainGlobals "_law_made" = some (some (.ref f_Lmade)))
    (l_Lmade : K.lookup f_Lmade = some ⟨oc_Lmade, od_Lmade, .func (PySem.W.fnOf "_law_made" "_law_made" (defArgs s_Lmade) (defBody s_Lmade) (defScope s_Lmade) .none kV_Lmade dc_Lmade pm_Lmade an_Lmade cd_Lmade ct_Lmade), sl_Lmade⟩)
    (c_Lmade : PySem.W.codeIn K cd_Lmade "_law_made" = true)
    (k_Lmade : PySem.W.keepIn K (.ref f_Lmade) = true)
    (a_Llines : PySem.W.nsIn K mainGlobals "_law_lines" = some (some (.ref f_Llines)))
    (l_Llines : K.lookup f_Llines = some ⟨oc_Llines, od_Llines, .func (PySem.W.fnOf "_law_lines" "_law_lines" (defArgs s_Llines) (defBody s_Llines) (defScope s_Llines) .none kV_Llines dc_Llines pm_Llines an_Llines cd_Llines ct_Llines), sl_Llines⟩)
    (c_Llines : PySem.W.codeIn K cd_Llines "_law_lines" = true)
    (k_Llines : PySem.W.keepIn K (.ref f_Llines) = true)
    (a_written : PySem.W.nsIn K mainGlobals "written" = some (some (.ref f_written)))
    (l_written : K.lookup f_written = some ⟨oc_written, od_written, .func (PySem.W.fnOf "written" "written" (defArgs s_written) (defBody s_written) (defScope s_written) .none kV_written dc_written pm_written an_written cd_written ct_written), sl_written⟩)
    (c_written : PySem.W.codeIn K cd_written "written" = true)
    (k_written : PySem.W.keepIn K (.ref f_written) = true)
    (a_number_of : PySem.W.nsIn K mainGlobals "number_of" = some (some (.ref f_number_of)))
    (l_number_of : K.lookup f_number_of = some ⟨oc_number_of, od_number_of, .func (PySem.W.fnOf "number_of" "number_of" (defArgs s_number_of) (defBody s_number_of) (defScope s_number_of) .none kV_number_of dc_number_of pm_number_of an_number_of cd_number_of ct_number_of), sl_number_of⟩)
    (c_number_of : PySem.W.codeIn K cd_number_of "number_of" = true)
    (k_number_of : PySem.W.keepIn K (.ref f_number_of) = true)
    (a_read : PySem.W.nsIn K mainGlobals "read" = some (some (.ref f_read)))
    (l_read : K.lookup f_read = some ⟨oc_read, od_read, .func (PySem.W.fnOf "read" "read" (defArgs s_read) (defBody s_read) (defScope s_read) .none kV_read dc_read pm_read an_read cd_read ct_read), sl_read⟩)
    (c_read : PySem.W.codeIn K cd_read "read" = true)
    (k_read : PySem.W.keepIn K (.ref f_read) = true)
    (a_law : PySem.W.nsIn K mainGlobals "law" = some (some (.ref f_law)))
    (l_law : K.lookup f_law = some ⟨oc_law, od_law, .func (PySem.W.fnOf "law" "law" (defArgs s_law) (defBody s_law) (defScope s_law) .none kV_law dc_law pm_law an_law cd_law ct_law), sl_law⟩)
    (c_law : PySem.W.codeIn K cd_law "law" = true)
    (k_law : PySem.W.keepIn K (.ref f_law) = true)
    (z_len : PySem.W.nsIn K mainGlobals "len" = some none)
    (z_range : PySem.W.nsIn K mainGlobals "range" = some none)
    (z_enumerate : PySem.W.nsIn K mainGlobals "enumerate" = some none)
    (z_min : PySem.W.nsIn K mainGlobals "min" = some none)
    (z_max : PySem.W.nsIn K mainGlobals "max" = some none)
    (z_int : PySem.W.nsIn K mainGlobals "int" = some none)
    (z_str : PySem.W.nsIn K mainGlobals "str" = some none)
    (z_list : PySem.W.nsIn K mainGlobals "list" = some none)
    (z_tuple : PySem.W.nsIn K mainGlobals "tuple" = some none)
    (z_sum : PySem.W.nsIn K mainGlobals "sum" = some none)
    (z_sorted : PySem.W.nsIn K mainGlobals "sorted" = some none)
    (z_bool : PySem.W.nsIn K mainGlobals "bool" = some none)
    (z_isinstance : PySem.W.nsIn K mainGlobals "isinstance" = some none)
    (g_MOST_DOCKS : PySem.W.nsIn K mainGlobals "MOST_DOCKS" = some (some (.int 4 t_MOST_DOCKS)))
    (g_MOST_ROOM : PySem.W.nsIn K mainGlobals "MOST_ROOM" = some (some (.int 9 t_MOST_ROOM)))
    (g_MOST_WAY : PySem.W.nsIn K mainGlobals "MOST_WAY" = some (some (.int 99 t_MOST_WAY)))
    (g_SORTS : PySem.W.nsIn K mainGlobals "SORTS" = some (some (.ref q_SORTS)))
    (h_SORTS : K.lookup q_SORTS = some ⟨.type "tuple", none, .seq #[.str "dock" t0_SORTS, .str "way" t1_SORTS, .str "cart" t2_SORTS] n_SORTS, sl_SORTS⟩)
    (g_FIGURES : PySem.W.nsIn K mainGlobals "FIGURES" = some (some (.str "0123456789" t_FIGURES))) :
    ∃ fd : FuncData, (∀ (s : Shared) (v : Value), BindsTo s fd ⟨[v], []⟩ [("_law_script", v)]) ∧ ∀ base : Heap, K.In base → base.Ns mainGlobals mg → FnOk l.prog w K mg base (L2.CX l.prog w) 7 fa fd ["_law_script"] (spL K) := by
  have e := hfa.symm.trans (PySem.W.mg_of X G a_law)
  cases e
  let c : Cs := { DockError := 0, BadTown := 0, BadText := 0, Town := C_Town }
  have B : Bi mg := { b_len := PySem.W.mg_none_of X G z_len, b_range := PySem.W.mg_none_of X G z_range, b_enumerate := PySem.W.mg_none_of X G z_enumerate, b_min := PySem.W.mg_none_of X G z_min, b_max := PySem.W.mg_none_of X G z_max, b_int := PySem.W.mg_none_of X G z_int, b_str := PySem.W.mg_none_of X G z_str, b_list := PySem.W.mg_none_of X G z_list, b_tuple := PySem.W.mg_none_of X G z_tuple, b_sum := PySem.W.mg_none_of X G z_sum, b_sorted := PySem.W.mg_none_of X G z_sorted, b_bool := PySem.W.mg_none_of X G z_bool, b_isinstance := PySem.W.mg_none_of X G z_isinstance }
  have TX : Tx K mg c := { cl_Town := ⟨pg_Town, hd_Town, po_Town, sa_Town⟩, mg_Town := PySem.W.mg_of X G aC_Town, n_Town_rooms := n_Town_rooms, n_Town_first := n_Town_first, n_Town_far := n_Town_far, n_Town_at := n_Town_at, n_Town_cart_room := n_Town_cart_room, n_Town_load := n_Town_load, c_MOST_DOCKS := ⟨_, PySem.W.mg_of X G g_MOST_DOCKS⟩, c_MOST_ROOM := ⟨_, PySem.W.mg_of X G g_MOST_ROOM⟩, c_MOST_WAY := ⟨_, PySem.W.mg_of X G g_MOST_WAY⟩, c_SORTS := ⟨_, PySem.W.mg_of X G g_SORTS, _, _, _, h_SORTS, rfl, rfl, rfl, by show 3 ≤ sizeLine; decide, (.cons ⟨_, rfl⟩ (.cons ⟨_, rfl⟩ (.cons ⟨_, rfl⟩ .nil)))⟩, c_FIGURES := ⟨_, PySem.W.mg_of X G g_FIGURES⟩ }
  have F_must_be := fun_mk (st := s_must_be) l_must_be c_must_be k_must_be
  have b_must_be := F_must_be.binds (ps := ["good", "word", "number"]) fun _ _ _ _ _ _ us hl => match us, hl with | [_, _, _], _ => rfl
  have F_Town_many := fun_mk (st := s_Town_many) l_Town_many c_Town_many k_Town_many
  have b_Town_many := F_Town_many.binds (ps := ["self"]) fun _ _ _ _ _ _ us hl => match us, hl with | [_], _ => rfl
  have F_Town_init := fun_mk (st := s_Town_init) l_Town_init c_Town_init k_Town_init
  have b_Town_init := F_Town_init.binds (ps := ["self", "docks", "ways", "cart"]) fun _ _ _ _ _ _ us hl => match us, hl with | [_, _, _, _], _ => rfl
  have F_Town_docks := fun_mk (st := s_Town_docks) l_Town_docks c_Town_docks k_Town_docks
  have b_Town_docks := F_Town_docks.binds (ps := ["self"]) fun _ _ _ _ _ _ us hl => match us, hl with | [_], _ => rfl
  have F_Town_ways := fun_mk (st := s_Town_ways) l_Town_ways c_Town_ways k_Town_ways
  have b_Town_ways := F_Town_ways.binds (ps := ["self"]) fun _ _ _ _ _ _ us hl => match us, hl with | [_], _ => rfl
  have F_Town_cart := fun_mk (st := s_Town_cart) l_Town_cart c_Town_cart k_Town_cart
  have b_Town_cart := F_Town_cart.binds (ps := ["self"]) fun _ _ _ _ _ _ us hl => match us, hl with | [_], _ => rfl
  have F_Lbegun := fun_mk (st := s_Lbegun) l_Lbegun c_Lbegun k_Lbegun
  have b_Lbegun := F_Lbegun.binds (ps := ["_law_script"]) fun _ _ _ _ _ _ us hl => match us, hl with | [_], _ => rfl
  have F_Ltake := fun_mk (st := s_Ltake) l_Ltake c_Ltake k_Ltake
  have b_Ltake := F_Ltake.binds (ps := ["_law_box", "_law_many"]) fun _ _ _ _ _ _ us hl => match us, hl with | [_, _], _ => rfl
  have F_Lalike := fun_mk (st := s_Lalike) l_Lalike c_Lalike k_Lalike
  have b_Lalike := F_Lalike.binds (ps := ["_law_found", "_law_due"]) fun _ _ _ _ _ _ us hl => match us, hl with | [_, _], _ => rfl
  have F_Ltown := fun_mk (st := s_Ltown) l_Ltown c_Ltown k_Ltown
  have b_Ltown := F_Ltown.binds (ps := ["_law_box", "_law_most", "_law_room", "_law_load"]) fun _ _ _ _ _ _ us hl => match us, hl with | [_, _, _, _], _ => rfl
  have F_Lmade := fun_mk (st := s_Lmade) l_Lmade c_Lmade k_Lmade
  have b_Lmade := F_Lmade.binds (ps := ["_law_rows"]) fun _ _ _ _ _ _ us hl => match us, hl with | [_], _ => rfl
  have F_Llines := fun_mk (st := s_Llines) l_Llines c_Llines k_Llines
  have b_Llines := F_Llines.binds (ps := ["_law_rows"]) fun _ _ _ _ _ _ us hl => match us, hl with | [_], _ => rfl
  have F_written := fun_mk (st := s_written) l_written c_written k_written
  have b_written := F_written.binds (ps := ["town"]) fun _ _ _ _ _ _ us hl => match us, hl with | [_], _ => rfl
  have F_number_of := fun_mk (st := s_number_of) l_number_of c_number_of k_number_of
  have b_number_of := F_number_of.binds (ps := ["word", "row"]) fun _ _ _ _ _ _ us hl => match us, hl with | [_, _], _ => rfl
  have F_read := fun_mk (st := s_read) l_read c_read k_read
  have b_read := F_read.binds (ps := ["text"]) fun _ _ _ _ _ _ us hl => match us, hl with | [_], _ => rfl
  have F_law := fun_mk (st := s_law) l_law c_law k_law
  refine ⟨PySem.W.fnOf "law" "law" (defArgs s_law) (defBody s_law) (defScope s_law) .none kV_law dc_law pm_law an_law cd_law ct_law, fun s v => .of_eq rfl, fun base _ _ => ?_⟩
  have ec_must_be := ok_must_be (P := l.prog) (w := w) (base := base) (c := c) B TX F_must_be (PySem.W.mg_of X G a_must_be) b_must_be 
  have ec_Town_many := ok_Town_many (P := l.prog) (w := w) (base := base) (c := c) B TX F_Town_many ⟨a_Town_many, i_Town_many, k_Town_many⟩ b_Town_many 
  have ek_Town := ok_Town_init (P := l.prog) (w := w) (base := base) (c := c) B TX F_Town_init ⟨mk_Town, a_Town_init, i_Town_init, kc_Town⟩ TX.mg_Town b_Town_init ec_must_be
  have ec_Town_docks := ok_Town_docks (P := l.prog) (w := w) (base := base) (c := c) B TX F_Town_docks ⟨a_Town_docks, i_Town_docks, k_Town_docks⟩ b_Town_docks ec_Town_many
  have ec_Town_ways := ok_Town_ways (P := l.prog) (w := w) (base := base) (c := c) B TX F_Town_ways ⟨a_Town_ways, i_Town_ways, k_Town_ways⟩ b_Town_ways 
  have ec_Town_cart := ok_Town_cart (P := l.prog) (w := w) (base := base) (c := c) B TX F_Town_cart ⟨a_Town_cart, i_Town_cart, k_Town_cart⟩ b_Town_cart 
  have ec_Lbegun := ok_Lbegun (P := l.prog) (w := w) (base := base) (c := c) B TX F_Lbegun (PySem.W.mg_of X G a_Lbegun) b_Lbegun 
  have ec_Ltake := ok_Ltake (P := l.prog) (w := w) (base := base) (c := c) B TX F_Ltake (PySem.W.mg_of X G a_Ltake) b_Ltake 
  have ec_Lalike := ok_Lalike (P := l.prog) (w := w) (base := base) (c := c) B TX F_Lalike (PySem.W.mg_of X G a_Lalike) b_Lalike  6
  have ec_Ltown := ok_Ltown (P := l.prog) (w := w) (base := base) (c := c) B TX F_Ltown (PySem.W.mg_of X G a_Ltown) b_Ltown ec_Ltake
  have ec_Lmade := ok_Lmade (P := l.prog) (w := w) (base := base) (c := c) B TX F_Lmade (PySem.W.mg_of X G a_Lmade) b_Lmade ek_Town
  have ec_Llines := ok_Llines (P := l.prog) (w := w) (base := base) (c := c) B TX F_Llines (PySem.W.mg_of X G a_Llines) b_Llines 
  have ec_written := ok_written (P := l.prog) (w := w) (base := base) (c := c) B TX F_written (PySem.W.mg_of X G a_written) b_written ec_Town_docks ec_Town_ways ec_Town_cart
  have ec_number_of := ok_number_of (P := l.prog) (w := w) (base := base) (c := c) B TX F_number_of (PySem.W.mg_of X G a_number_of) b_number_of 
  have ec_read := ok_read (P := l.prog) (w := w) (base := base) (c := c) B TX F_read (PySem.W.mg_of X G a_read) b_read ec_number_of ek_Town
  exact (ok_law (c := c) B TX F_law ec_Lbegun ec_Ltown ec_Llines ec_Lalike ec_written ec_Lmade ec_read ec_Town_cart ec_Town_ways ec_Town_docks).imp (spL_imp K c)
theorem walk {l : PySem.W.OpenLaw} {q : Program} {loose : List Str} {XP : (Str → Option Value) → Heap → Prop} {YP : World → Heap → Prop} {d : DefRec} {K : Params → PySem.W.Frag} (hn : l.most = some 63) (hdf : d.params.defaults = [])
    (hY : ∀ (w : World) (h : Heap), YP w h → (K w.params).In h)
    (F : ∀ (w : World) (mg : Str → Option Value) (fa : Addr) (h : Heap), (K w.params).In h → h.Ns mainGlobals mg → mg d.name = some (.ref fa) →
      ∃ fd : FuncData, (∀ (s : Shared) (u : Value), BindsTo s fd ⟨[u], []⟩ [("_law_script", u)]) ∧ ∀ base : Heap, (K w.params).In base → base.Ns mainGlobals mg → FnOk l.prog w (K w.params) mg base (L2.CX l.prog w) 7 fa fd ["_law_script"] (spL (K w.params))) :
    PySem.W.WalkO q loose XP YP l.row.toRowW d [] (fun f vs => PySem.call f vs) :=
  L2.walk_of (n := 63) (k := 7) (x := "_law_script") (CX := fun w => L2.CX l.prog w) (sp := fun w => spL (K w.params)) hn (by decide) hdf ⟨rfl, by decide, by decide⟩ hY F (fun _ _ a ns hl _ hS => ⟨a, ns, rfl, hl, hS, fun _ => rfl⟩) fun _ _ _ _ _ h => by
    obtain ⟨_, _, _, _, _, _, _, _, _, _, _, _, z⟩ := h
    exact z.elim
end Fw
open PySem PySem.W PyProof.Rows
set_option maxRecDepth 100000 in
set_option maxHeartbeats 0 in
theorem PySem.Challenge.cw_bikedocks_k13_written_and_read_holds : PySem.Challenge.rw_bikedocks_k13_written_and_read.Holds := by
  w_on; o_law; k_head; (case hw => w_witness2)
  k_fill
  refine Fw.walk (l := PySem.Challenge.rw_bikedocks_k13_written_and_read) rfl rfl (fun w h Y => PySem.W.kIn_of Y) ?F
  case F =>
    intro w mg fa h KX G hmg
    refine' Fw.all_mk KX G hmg ?aC_Town ?pg_Town ?hd_Town ?po_Town ?sa_Town ?mk_Town ?kc_Town ?n_Town_rooms ?n_Town_first ?n_Town_far ?n_Town_at ?n_Town_cart_room ?n_Town_load ?a_must_be ?l_must_be ?c_must_be ?k_must_be ?a_Town_many ?i_Town_many ?l_Town_many ?c_Town_many ?k_Town_many ?a_Town_init ?i_Town_init ?l_Town_init ?c_Town_init ?k_Town_init ?a_Town_docks ?i_Town_docks ?l_Town_docks ?c_Town_docks ?k_Town_docks ?a_Town_ways ?i_Town_ways ?l_Town_ways ?c_Town_ways ?k_Town_ways ?a_Town_cart ?i_Town_cart ?l_Town_cart ?c_Town_cart ?k_Town_cart ?a_Lbegun ?l_Lbegun ?c_Lbegun ?k_Lbegun ?a_Ltake ?l_Ltake ?c_Ltake ?k_Ltake ?a_Lalike ?l_Lalike ?c_Lalike ?k_Lalike ?a_Ltown ?l_Ltown ?c_Ltown ?k_Ltown ?a_Lmade ?l_Lmade ?c_Lmade ?k_Lmade ?a_Llines ?l_Llines ?c_Llines ?k_Llines ?a_written ?l_written ?c_written ?k_written ?a_number_of ?l_number_of ?c_number_of ?k_number_of ?a_read ?l_read ?c_read ?k_read ?a_law ?l_law ?c_law ?k_law ?z_len ?z_range ?z_enumerate ?z_min ?z_max ?z_int ?z_str ?z_list ?z_tuple ?z_sum ?z_sorted ?z_bool ?z_isinstance ?g_MOST_DOCKS ?g_MOST_ROOM ?g_MOST_WAY ?g_SORTS ?h_SORTS ?g_FIGURES
    (case aC_Town => k_is)
    (case pg_Town => k_is)
    (case hd_Town => k_is)
    (case po_Town => k_is)
    (case sa_Town => k_is)
    (case mk_Town => k_is)
    (case kc_Town => k_is)
    (case n_Town_rooms => k_is)
    (case n_Town_first => k_is)
    (case n_Town_far => k_is)
    (case n_Town_at => k_is)
    (case n_Town_cart_room => k_is)
    (case n_Town_load => k_is)
    (case a_must_be => k_is)
    (case l_must_be => k_is)
    (case c_must_be => k_is)
    (case k_must_be => k_is)
    (case a_Town_many => k_is)
    (case i_Town_many => k_is)
    (case l_Town_many => k_is)
    (case c_Town_many => k_is)
    (case k_Town_many => k_is)
    (case a_Town_init => k_is)
    (case i_Town_init => k_is)
    (case l_Town_init => k_is)
    (case c_Town_init => k_is)
    (case k_Town_init => k_is)
    (case a_Town_docks => k_is)
    (case i_Town_docks => k_is)
    (case l_Town_docks => k_is)
    (case c_Town_docks => k_is)
    (case k_Town_docks => k_is)
    (case a_Town_ways => k_is)
    (case i_Town_ways => k_is)
    (case l_Town_ways => k_is)
    (case c_Town_ways => k_is)
    (case k_Town_ways => k_is)
    (case a_Town_cart => k_is)
    (case i_Town_cart => k_is)
    (case l_Town_cart => k_is)
    (case c_Town_cart => k_is)
    (case k_Town_cart => k_is)
    (case a_Lbegun => k_is)
    (case l_Lbegun => k_is)
    (case c_Lbegun => k_is)
    (case k_Lbegun => k_is)
    (case a_Ltake => k_is)
    (case l_Ltake => k_is)
    (case c_Ltake => k_is)
    (case k_Ltake => k_is)
    (case a_Lalike => k_is)
    (case l_Lalike => k_is)
    (case c_Lalike => k_is)
    (case k_Lalike => k_is)
    (case a_Ltown => k_is)
    (case l_Ltown => k_is)
    (case c_Ltown => k_is)
    (case k_Ltown => k_is)
    (case a_Lmade => k_is)
    (case l_Lmade => k_is)
    (case c_Lmade => k_is)
    (case k_Lmade => k_is)
    (case a_Llines => k_is)
    (case l_Llines => k_is)
    (case c_Llines => k_is)
    (case k_Llines => k_is)
    (case a_written => k_is)
    (case l_written => k_is)
    (case c_written => k_is)
    (case k_written => k_is)
    (case a_number_of => k_is)
    (case l_number_of => k_is)
    (case c_number_of => k_is)
    (case k_number_of => k_is)
    (case a_read => k_is)
    (case l_read => k_is)
    (case c_read => k_is)
    (case k_read => k_is)
    (case a_law => k_is)
    (case l_law => k_is)
    (case c_law => k_is)
    (case k_law => k_is)
    (case z_len => k_is)
    (case z_range => k_is)
    (case z_enumerate => k_is)
    (case z_min => k_is)
    (case z_max => k_is)
    (case z_int => k_is)
    (case z_str => k_is)
    (case z_list => k_is)
    (case z_tuple => k_is)
    (case z_sum => k_is)
    (case z_sorted => k_is)
    (case z_bool => k_is)
    (case z_isinstance => k_is)
    (case g_MOST_DOCKS => k_is)
    (case g_MOST_ROOM => k_is)
    (case g_MOST_WAY => k_is)
    (case g_SORTS => k_is)
    (case h_SORTS => k_is)
    (case g_FIGURES => k_is)
#print axioms PySem.Challenge.cw_bikedocks_k13_written_and_read_holds
