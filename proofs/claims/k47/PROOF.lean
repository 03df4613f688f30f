import PyProof.Rows.All
import Wide.All
import OpenK.AllK
import Wide.FinOn
import HandS.ForMost
import HandS.ForExc
import HandS.Walk
import HandS.Evl
import HandS.Wide
import HandS.TupAny
import HandS.Steps
import HandS.IsInst
import HandS.Conv
import HandS.More
import HandS.SortInts
import HandS.RaiseMore
import HandS.StrMore
import HandS.Defaults
import HandS.WordsExc
import HandS.Iter
import HandS.Rev
import HandS.FStr
import HandS.Small
import HandS.Head0
import HandS.Head1
import HandS.Head2
import HandS.HeadEnd
import HandS.HeadHook1
import HandS.HeadHook2
import HandS.Text
import KE.KStateDown
import PySem.Challenge.RW_stylehouse_k47_values_written
set_option Elab.async false
set_option linter.all false
set_option maxRecDepth 100000
set_option maxHeartbeats 0
set_option linter.all false
set_option maxRecDepth 100000
set_option maxHeartbeats 4000000
/-! Mi: a small evaluator over plain data, and what it has to do with the layer. Core: data, contents, cells, the relation. -/
namespace Mi
open PySem PySem.Spec PyProof.Rows L2

/-! ### plain data -/
inductive D where
  | non | bl (b : Bool) | int (i : Int) | str (x : Str)
  | tup (ds : List D) | lst (ds : List D) | dic (ks : List Key) (ds : List D)
  | ref (n : Nat) | fo (c : Nat) (ns : List Str) (ds : List D) | exc (c : Nat)
/-- what a slot or a field holds: a value, or a list or dict of its own -/
inductive L where
  | v (d : D) | ol (ds : List D) | od (ks : List Key) (ds : List D)
inductive Ob where
  | dead | lst (ds : List D) | dic (ks : List Key) (ds : List D) | ins (c : Nat) (ns : List Str) (ls : List L)
abbrev HS := List Ob
abbrev SL := List (Option L)
structure S where
  sl : SL
  hs : HS
/-- what is fixed: the written part, where the classes stand -/
structure G where
  K : PySem.W.Frag
  C : Nat → Addr
/-- the frozen part, the cells' addresses, the slots' and fields' own -/
structure Wd where
  F : Hp
  io : List Addr
  sa : Nat → Addr
  fa : Nat → Nat → Addr
inductive Loc where
  | slot (i : Nat) | cell (n : Nat) | fld (n j : Nat)
  deriving DecidableEq
def Wd.ad (w : Wd) : Loc → Addr
  | .slot i => w.sa i
  | .cell n => w.io.getD n 0
  | .fld n j => w.fa n j

/-! ### values in the heap -/
mutual
def FV (g : G) (F : Hp) (io : List Addr) : D → V → Prop
  | .non, v => v = .non
  | .bl b, v => v = .bl b
  | .int i, v => v = .int i
  | .str x, v => v = .str x
  | .tup ds, v => ∃ a vs, v = .ref a ∧ SqT g.K F a vs ∧ FVs g F io ds vs
  | .lst ds, v => ∃ a vs, v = .ref a ∧ SqL g.K F a vs ∧ FVs g F io ds vs
  | .dic ks ds, v => ∃ a vs, v = .ref a ∧ Rd F a (.dK (ks.zip vs)) ∧ ks.length = ds.length ∧ FVs g F io ds vs
  | .ref n, v => ∃ a, v = .ref a ∧ io[n]? = some a
  | .fo c ns ds, v => ∃ a dx vs, v = .ref a ∧ F a = some (.ins (g.C c) dx (ns.zip vs)) ∧ ns.length = ds.length ∧ FVs g F io ds vs
  | .exc _, _ => False
def FVs (g : G) (F : Hp) (io : List Addr) : List D → List V → Prop
  | [], vs => vs = []
  | d :: ds, vs => ∃ v r, vs = v :: r ∧ FV g F io d v ∧ FVs g F io ds r
end
theorem FVs.len {g : G} {F : Hp} {io : List Addr} : ∀ {ds : List D} {vs : List V}, FVs g F io ds vs → ds.length = vs.length
  | [], _, h => by
    have h' : _ = _ := h
    rw [h']
    rfl
  | d :: ds, _, h => by
    obtain ⟨v, r, rfl, _, h2⟩ := h
    rw [List.length_cons, List.length_cons, h2.len]
theorem FVs.get {g : G} {F : Hp} {io : List Addr} : ∀ {ds : List D} {vs : List V} {i : Nat} {d : D}, FVs g F io ds vs → ds[i]? = some d → ∃ v, vs[i]? = some v ∧ FV g F io d v
  | [], _, _, _, _, e => by simp at e
  | d :: ds, _, 0, d', h, e => by
    obtain ⟨v, r, rfl, h1, _⟩ := h
    have e' : d = d' := by simpa using e
    subst e'
    exact ⟨v, rfl, h1⟩
  | d :: ds, _, i + 1, d', h, e => by
    obtain ⟨v, r, rfl, _, h2⟩ := h
    obtain ⟨u, e1, e2⟩ := h2.get (i := i) (d := d') (by simpa using e)
    exact ⟨u, by simpa using e1, e2⟩
theorem FVs.getV {g : G} {F : Hp} {io : List Addr} : ∀ {ds : List D} {vs : List V} {i : Nat} {v : V}, FVs g F io ds vs → vs[i]? = some v → ∃ d, ds[i]? = some d ∧ FV g F io d v
  | [], _, _, _, h, e => by
    have h' : _ = _ := h
    rw [h'] at e
    simp at e
  | d :: ds, _, 0, v', h, e => by
    obtain ⟨v, r, rfl, h1, _⟩ := h
    have e' : v = v' := by simpa using e
    subst e'
    exact ⟨d, rfl, h1⟩
  | d :: ds, _, i + 1, v', h, e => by
    obtain ⟨v, r, rfl, _, h2⟩ := h
    obtain ⟨u, e1, e2⟩ := h2.getV (i := i) (v := v') (by simpa using e)
    exact ⟨u, by simpa using e1, e2⟩
theorem FVs.append {g : G} {F : Hp} {io : List Addr} : ∀ {ds es : List D} {vs us : List V}, FVs g F io ds vs → FVs g F io es us → FVs g F io (ds ++ es) (vs ++ us)
  | [], _, _, _, h, h' => by
    have e : _ = _ := h
    rw [e]
    exact h'
  | d :: ds, es, _, us, h, h' => by
    obtain ⟨v, r, rfl, h1, h2⟩ := h
    exact ⟨v, r ++ us, rfl, h1, h2.append h'⟩
theorem FVs.cons {g : G} {F : Hp} {io : List Addr} {d : D} {ds : List D} {v : V} {vs : List V} (h : FV g F io d v) (t : FVs g F io ds vs) : FVs g F io (d :: ds) (v :: vs) := ⟨v, vs, rfl, h, t⟩
theorem FVs.nil {g : G} {F : Hp} {io : List Addr} : FVs g F io [] [] := rfl
theorem FVs.take {g : G} {F : Hp} {io : List Addr} : ∀ {ds : List D} {vs : List V} (n : Nat), FVs g F io ds vs → FVs g F io (ds.take n) (vs.take n)
  | _, _, 0, _ => by simp [FVs]
  | [], _, n + 1, h => by
    have e : _ = _ := h
    rw [e]
    simp [FVs]
  | d :: ds, _, n + 1, h => by
    obtain ⟨v, r, rfl, h1, h2⟩ := h
    exact ⟨v, r.take n, rfl, h1, h2.take n⟩
theorem FVs.drop {g : G} {F : Hp} {io : List Addr} : ∀ {ds : List D} {vs : List V} (n : Nat), FVs g F io ds vs → FVs g F io (ds.drop n) (vs.drop n)
  | _, _, 0, h => h
  | [], _, n + 1, h => by
    have e : _ = _ := h
    rw [e]
    simp [FVs]
  | d :: ds, _, n + 1, h => by
    obtain ⟨v, r, rfl, h1, h2⟩ := h
    exact h2.drop n
theorem FVs.reverse {g : G} {F : Hp} {io : List Addr} : ∀ {ds : List D} {vs : List V}, FVs g F io ds vs → FVs g F io ds.reverse vs.reverse
  | [], _, h => by
    have e : _ = _ := h
    rw [e]
    rfl
  | d :: ds, _, h => by
    obtain ⟨v, r, rfl, h1, h2⟩ := h
    rw [List.reverse_cons, List.reverse_cons]
    exact h2.reverse.append (.cons h1 .nil)
theorem FVs.set {g : G} {F : Hp} {io : List Addr} {d : D} {v : V} (hd : FV g F io d v) : ∀ {ds : List D} {vs : List V} (i : Nat), FVs g F io ds vs → FVs g F io (ds.set i d) (vs.set i v)
  | [], _, _, h => by
    have e : _ = _ := h
    rw [e]
    rfl
  | d' :: ds, _, 0, h => by
    obtain ⟨u, r, rfl, h1, h2⟩ := h
    exact ⟨v, r, rfl, hd, h2⟩
  | d' :: ds, _, i + 1, h => by
    obtain ⟨u, r, rfl, h1, h2⟩ := h
    exact ⟨u, r.set i v, rfl, h1, h2.set hd i⟩

/-- what may be read stays readable -/
def RdS (F F' : Hp) : Prop := ∀ a u, (∀ o z, u ≠ .frz o z) → Rd F a u → Rd F' a u
/-- instances stay -/
def InS (F F' : Hp) : Prop := ∀ a C dx fs, F a = some (.ins C dx fs) → F' a = some (.ins C dx fs)
structure Le (F F' : Hp) (io io' : List Addr) : Prop where
  rd : RdS F F'
  ins : InS F F'
  cells : ∀ (k : Nat) (a : Addr), io[k]? = some a → io'[k]? = some a
theorem Le.refl (F : Hp) (io : List Addr) : Le F F io io := ⟨fun _ _ _ h => h, fun _ _ _ _ h => h, fun _ _ h => h⟩
theorem Le.trans {F F1 F2 : Hp} {i i1 i2 : List Addr} (a : Le F F1 i i1) (b : Le F1 F2 i1 i2) : Le F F2 i i2 :=
  ⟨fun x u hn h => b.rd x u hn (a.rd x u hn h), fun x C dx fs h => b.ins x C dx fs (a.ins x C dx fs h), fun n x h => b.cells n x (a.cells n x h)⟩
theorem Le.sqT {F F' : Hp} {i i' : List Addr} (l : Le F F' i i') {K : PySem.W.Frag} {a : Addr} {vs : List V} (h : SqT K F a vs) : SqT K F' a vs := by
  rcases h with h | h
  · exact .inl (l.rd _ _ (by intro o z q; cases q) h)
  · exact .inr h
theorem Le.sqL {F F' : Hp} {i i' : List Addr} (l : Le F F' i i') {K : PySem.W.Frag} {a : Addr} {vs : List V} (h : SqL K F a vs) : SqL K F' a vs := by
  rcases h with h | h
  · exact .inl (l.rd _ _ (by intro o z q; cases q) h)
  · exact .inr h
mutual
theorem FV.mono {g : G} {F F' : Hp} {io io' : List Addr} (l : Le F F' io io') : ∀ (d : D) (v : V), FV g F io d v → FV g F' io' d v
  | .non, _, h => h
  | .bl _, _, h => h
  | .int _, _, h => h
  | .str _, _, h => h
  | .tup ds, v, h => by
    obtain ⟨a, vs, e, h1, h2⟩ := h
    exact ⟨a, vs, e, l.sqT h1, FVs.mono l ds vs h2⟩
  | .lst ds, v, h => by
    obtain ⟨a, vs, e, h1, h2⟩ := h
    exact ⟨a, vs, e, l.sqL h1, FVs.mono l ds vs h2⟩
  | .dic ks ds, v, h => by
    obtain ⟨a, vs, e, h1, h2, h3⟩ := h
    exact ⟨a, vs, e, l.rd _ _ (by intro o z q; cases q) h1, h2, FVs.mono l ds vs h3⟩
  | .ref n, v, h => by
    obtain ⟨a, e, h1⟩ := h
    exact ⟨a, e, l.cells _ _ h1⟩
  | .fo c ns ds, v, h => by
    obtain ⟨a, dx, vs, e, h1, h2, h3⟩ := h
    exact ⟨a, dx, vs, e, l.ins _ _ _ _ h1, h2, FVs.mono l ds vs h3⟩
  | .exc _, _, h => h
theorem FVs.mono {g : G} {F F' : Hp} {io io' : List Addr} (l : Le F F' io io') : ∀ (ds : List D) (vs : List V), FVs g F io ds vs → FVs g F' io' ds vs
  | [], _, h => h
  | d :: ds, _, h => by
    obtain ⟨v, r, e, h1, h2⟩ := h
    exact ⟨v, r, e, FV.mono l d v h1, FVs.mono l ds r h2⟩
end

/-! ### contents, cells -/
def LV (g : G) (F : Hp) (io : List Addr) (H : Hp) (ad : Addr) : L → V → Prop
  | .v d, x => FV g F io d x
  | .ol ds, x => x = .ref ad ∧ ∃ vs, H ad = some (.lst vs) ∧ FVs g F io ds vs
  | .od ks ds, x => x = .ref ad ∧ ∃ vs, H ad = some (.dK (ks.zip vs)) ∧ ks.length = ds.length ∧ FVs g F io ds vs
def OwnL : L → Prop
  | .v _ => False
  | _ => True
/-- fields, from the j-th on -/
def LVs (g : G) (w : Wd) (H : Hp) (n : Nat) : Nat → List L → List V → Prop
  | _, [], xs => xs = []
  | j, l :: ls, xs => ∃ x r, xs = x :: r ∧ LV g w.F w.io H (w.fa n j) l x ∧ LVs g w H n (j + 1) ls r
def OR (g : G) (w : Wd) (H : Hp) (n : Nat) : Ob → Prop
  | .dead => True
  | .lst ds => ∃ a vs, w.io[n]? = some a ∧ H a = some (.lst vs) ∧ FVs g w.F w.io ds vs
  | .dic ks ds => ∃ a vs, w.io[n]? = some a ∧ H a = some (.dK (ks.zip vs)) ∧ ks.length = ds.length ∧ FVs g w.F w.io ds vs
  | .ins c ns ls => ∃ a dx xs, w.io[n]? = some a ∧ H a = some (.ins (g.C c) dx (ns.zip xs)) ∧ ns.length = ls.length ∧ LVs g w H n 0 ls xs
def Live (sl : SL) (hs : HS) : Loc → Prop
  | .slot i => ∃ l, sl[i]? = some (some l) ∧ OwnL l
  | .cell n => ∃ o, hs[n]? = some o ∧ o ≠ .dead
  | .fld n j => ∃ c ns ls l, hs[n]? = some (.ins c ns ls) ∧ ls[j]? = some l ∧ OwnL l
/-- the entry of the def that runs: its heap, what it may write, its frozen part, its cells -/
structure En where
  H : Hp
  W : Addr → Prop
  F : Hp
  io : List Addr
structure SR (g : G) (n : En) (w : Wd) (s : S) (σ : L2.St) (H : Hp) : Prop where
  sub : ∀ a o, w.F a = some o → H a = some o
  slots : ∀ i l, s.sl[i]? = some (some l) → ∃ x, σ[i]? = some (some x) ∧ LV g w.F w.io H (w.sa i) l x
  objs : ∀ k o, s.hs[k]? = some o → OR g w H k o
  len : w.io.length = s.hs.length
  inj : ∀ p q, Live s.sl s.hs p → Live s.sl s.hs q → w.ad p = w.ad q → p = q
  nof : ∀ p, Live s.sl s.hs p → w.F (w.ad p) = none
  keep : ∀ a o, n.H a = some o → ¬ n.W a → H a = some o
  own : ∀ p, Live s.sl s.hs p → n.W (w.ad p) ∨ n.H (w.ad p) = none
  frz : ∀ a o, w.F a = some o → (∃ o', n.F a = some o') ∨ n.W a ∨ n.H a = none
  grow : Le n.F w.F n.io w.io
  sle : s.sl.length ≤ σ.length
end Mi

set_option linter.all false
set_option maxRecDepth 100000
set_option maxHeartbeats 4000000
/-! Mi: what keeps the relation: new frozen objects, slots, contents, calls. -/
namespace Mi
open PySem PySem.Spec PyProof.Rows L2
section
variable {g : G} {n : En} {w : Wd} {s : S} {σ : L2.St} {H : Hp} {p : Addr}

theorem LV.mono {F F' : Hp} {io io' : List Addr} {H' : Hp} {ad : Addr} {x : V} (l : Le F F' io io') : ∀ (c : L), (OwnL c → ∀ o, H ad = some o → H' ad = some o) → LV g F io H ad c x → LV g F' io' H' ad c x
  | .v d, _, h => FV.mono l d x h
  | .ol ds, k, h => by
    obtain ⟨e, vs, h1, h2⟩ := h
    exact ⟨e, vs, k trivial _ h1, FVs.mono l ds vs h2⟩
  | .od ks ds, k, h => by
    obtain ⟨e, vs, h1, h2, h3⟩ := h
    exact ⟨e, vs, k trivial _ h1, h2, FVs.mono l ds vs h3⟩
theorem LV.has {F : Hp} {io : List Addr} {ad : Addr} {x : V} : ∀ (c : L), OwnL c → LV g F io H ad c x → ∃ o, H ad = some o
  | .v _, k, _ => k.elim
  | .ol _, _, h => by
    obtain ⟨_, vs, h1, _⟩ := h
    exact ⟨_, h1⟩
  | .od _ _, _, h => by
    obtain ⟨_, vs, h1, _⟩ := h
    exact ⟨_, h1⟩
theorem LVs.get {k : Nat} : ∀ {ls : List L} {xs : List V} {j0 j : Nat} {l : L}, LVs g w H k j0 ls xs → ls[j]? = some l → ∃ x, xs[j]? = some x ∧ LV g w.F w.io H (w.fa k (j0 + j)) l x
  | [], _, _, _, _, _, e => by simp at e
  | l :: ls, _, j0, 0, l', h, e => by
    obtain ⟨x, r, rfl, h1, _⟩ := h
    have e' : l = l' := by simpa using e
    subst e'
    exact ⟨x, rfl, h1⟩
  | l :: ls, _, j0, j + 1, l', h, e => by
    obtain ⟨x, r, rfl, _, h2⟩ := h
    obtain ⟨y, e1, e2⟩ := LVs.get (j := j) h2 (by simpa using e)
    refine ⟨y, by simpa using e1, ?_⟩
    rw [show j0 + (j + 1) = j0 + 1 + j by omega]
    exact e2
theorem LVs.len {k : Nat} : ∀ {ls : List L} {xs : List V} {j0 : Nat}, LVs g w H k j0 ls xs → ls.length = xs.length
  | [], _, _, h => by
    have e : _ = _ := h
    rw [e]
    rfl
  | l :: ls, _, j0, h => by
    obtain ⟨x, r, rfl, _, h2⟩ := h
    rw [List.length_cons, List.length_cons, LVs.len h2]
theorem LVs.mono {w' : Wd} {H' : Hp} {k : Nat} (le : Le w.F w'.F w.io w'.io) : ∀ {ls : List L} {xs : List V} {j0 : Nat},
    (∀ j l, ls[j]? = some l → OwnL l → w'.fa k (j0 + j) = w.fa k (j0 + j) ∧ ∀ o, H (w.fa k (j0 + j)) = some o → H' (w.fa k (j0 + j)) = some o) → LVs g w H k j0 ls xs → LVs g w' H' k j0 ls xs
  | [], _, _, _, h => h
  | l :: ls, _, j0, q, h => by
    obtain ⟨x, r, rfl, h1, h2⟩ := h
    refine ⟨x, r, rfl, ?_, LVs.mono le (fun j l' e o => ?_) h2⟩
    · cases l with
      | v d => exact FV.mono le d x h1
      | ol ds =>
        obtain ⟨q1, q2⟩ := q 0 (.ol ds) rfl trivial
        rw [show j0 + 0 = j0 from rfl] at q1 q2
        rw [q1]
        exact LV.mono le _ (fun _ => q2) h1
      | od ks ds =>
        obtain ⟨q1, q2⟩ := q 0 (.od ks ds) rfl trivial
        rw [show j0 + 0 = j0 from rfl] at q1 q2
        rw [q1]
        exact LV.mono le _ (fun _ => q2) h1
    · have z := q (j + 1) l' (by simpa using e) o
      rw [show j0 + (j + 1) = j0 + 1 + j by omega] at z
      exact z
/-- a cell's object, in another world -/
theorem OR.mono {w' : Wd} {H' : Hp} {k : Nat} (le : Le w.F w'.F w.io w'.io) : ∀ (o : Ob), (o ≠ .dead → ∀ a u, w.io[k]? = some a → H a = some u → H' a = some u) →
    (∀ c ns ls j l, o = .ins c ns ls → ls[j]? = some l → OwnL l → w'.fa k j = w.fa k j ∧ ∀ u, H (w.fa k j) = some u → H' (w.fa k j) = some u) → OR g w H k o → OR g w' H' k o
  | .dead, _, _, h => h
  | .lst ds, q, _, h => by
    obtain ⟨a, vs, h1, h2, h3⟩ := h
    exact ⟨a, vs, le.cells _ _ h1, q (fun z => by cases z) _ _ h1 h2, FVs.mono le _ _ h3⟩
  | .dic ks ds, q, _, h => by
    obtain ⟨a, vs, h1, h2, h3, h4⟩ := h
    exact ⟨a, vs, le.cells _ _ h1, q (fun z => by cases z) _ _ h1 h2, h3, FVs.mono le _ _ h4⟩
  | .ins c ns ls, q, q2, h => by
    obtain ⟨a, dx, xs, h1, h2, h3, h4⟩ := h
    refine ⟨a, dx, xs, le.cells _ _ h1, q (fun z => by cases z) _ _ h1 h2, h3, LVs.mono le (fun j l e o => ?_) h4⟩
    have z := q2 c ns ls j l rfl e o
    rw [Nat.zero_add]
    exact z
theorem OR.has {k : Nat} : ∀ (o : Ob), o ≠ .dead → OR g w H k o → ∃ a u, w.io[k]? = some a ∧ H a = some u
  | .dead, q, _ => (q rfl).elim
  | .lst ds, _, h => by
    obtain ⟨a, vs, h1, h2, _⟩ := h
    exact ⟨a, _, h1, h2⟩
  | .dic ks ds, _, h => by
    obtain ⟨a, vs, h1, h2, _⟩ := h
    exact ⟨a, _, h1, h2⟩
  | .ins c ns ls, _, h => by
    obtain ⟨a, dx, xs, h1, h2, _⟩ := h
    exact ⟨a, _, h1, h2⟩
theorem getD_of {l : List Addr} {k : Nat} {a : Addr} (h : l[k]? = some a) : l.getD k 0 = a := by
  rw [List.getD_eq_getElem?_getD, h]
  rfl
/-- a live place stands in the heap -/
theorem SR.has (I : SR g n w s σ H) {q : Loc} (h : Live s.sl s.hs q) : ∃ o, H (w.ad q) = some o := by
  cases q with
  | slot i =>
    obtain ⟨l, e, o⟩ := h
    obtain ⟨x, _, h2⟩ := I.slots i l e
    exact LV.has l o h2
  | cell k =>
    obtain ⟨o, e, d⟩ := h
    obtain ⟨a, u, h1, h2⟩ := OR.has o d (I.objs k o e)
    refine ⟨u, ?_⟩
    show H (w.io.getD k 0) = _
    rw [getD_of h1]
    exact h2
  | fld k j =>
    obtain ⟨c, ns, ls, l, e, e2, o⟩ := h
    obtain ⟨a, dx, xs, _, _, _, h4⟩ := I.objs k _ e
    obtain ⟨x, _, h5⟩ := h4.get e2
    rw [Nat.zero_add] at h5
    exact LV.has l o h5
theorem SR.neW (I : SR g n w s σ H) (hp : H p = none) {q : Loc} (h : Live s.sl s.hs q) : w.ad q ≠ p := by
  obtain ⟨o, e⟩ := I.has h
  exact ne_of_none e hp
theorem SR.entry (I : SR g n w s σ H) (hp : H p = none) : n.W p ∨ n.H p = none := by
  by_cases hw : n.W p
  · exact .inl hw
  · cases e : n.H p with
    | none => exact .inr rfl
    | some o =>
      have := I.keep p o e hw
      rw [hp] at this
      cases this
/-- a new frozen object -/
theorem rdS_new {F : Hp} {u : HO} (hp : F p = none) : RdS F (upd F p u) := fun a z _ h => by
  rcases h with h | ⟨o, h⟩
  · exact .inl (by rw [upd_ne (ne_of_none h hp)]; exact h)
  · exact .inr ⟨o, by rw [upd_ne (ne_of_none h hp)]; exact h⟩
theorem inS_new {F : Hp} {u : HO} (hp : F p = none) : InS F (upd F p u) := fun a C dx fs h => by
  rw [upd_ne (ne_of_none h hp)]
  exact h
theorem le_new {F : Hp} {u : HO} {io : List Addr} (hp : F p = none) : Le F (upd F p u) io io := ⟨rdS_new hp, inS_new hp, fun _ _ h => h⟩
theorem SR.Fnone (I : SR g n w s σ H) (hp : H p = none) : w.F p = none := by
  cases e : w.F p with
  | none => rfl
  | some o =>
    have := I.sub p o e
    rw [hp] at this
    cases this
theorem SR.new (I : SR g n w s σ H) {u : HO} (hp : H p = none) : SR g n { w with F := upd w.F p u } s σ (upd H p u) := by
  have hF := I.Fnone hp
  have le : Le w.F (upd w.F p u) w.io w.io := le_new hF
  have hk : ∀ a o, H a = some o → upd H p u a = some o := fun a o e => by
    rw [upd_ne (ne_of_none e hp)]
    exact e
  refine ⟨fun a o e => ?_, fun i l e => ?_, fun k o e => ?_, I.len, I.inj, fun q hq => ?_, fun a o e nw => ?_, I.own, fun a o e => ?_, I.grow.trans le, I.sle⟩
  · have e : upd w.F p u a = some o := e
    by_cases ha : a = p
    · subst ha
      rw [upd_same] at e ⊢
      exact e
    · rw [upd_ne ha] at e
      exact hk a o (I.sub a o e)
  · obtain ⟨x, e1, e2⟩ := I.slots i l e
    exact ⟨x, e1, LV.mono le l (fun _ o q => hk _ o q) e2⟩
  · exact OR.mono (w' := { w with F := upd w.F p u }) le o (fun _ a u' _ q => hk a u' q) (fun c ns ls j l _ _ _ => ⟨rfl, fun u' q => hk _ u' q⟩) (I.objs k o e)
  · show upd w.F p u (w.ad q) = none
    rw [upd_ne (I.neW hp hq)]
    exact I.nof q hq
  · exact hk a o (I.keep a o e nw)
  · by_cases ha : a = p
    · subst ha
      rcases I.entry hp with h | h
      · exact .inr (.inl h)
      · exact .inr (.inr h)
    · have e' : w.F a = some o := by
        have e2 : upd w.F p u a = some o := e
        rw [upd_ne ha] at e2
        exact e2
      exact I.frz a o e'
/-- a slot gets a value -/
theorem SR.setv (I : SR g n w s σ H) {i : Nat} {d : D} {x : V} (h : FV g w.F w.io d x) : SR g n w { s with sl := s.sl.set i (some (.v d)) } (σ.set i (some x)) H := by
  have live : ∀ q, Live (s.sl.set i (some (.v d))) s.hs q → Live s.sl s.hs q := fun q hq => by
    cases q with
    | slot j =>
      obtain ⟨l, e, o⟩ := hq
      by_cases hj : j = i
      · subst hj
        by_cases hl : j < s.sl.length
        · rw [List.getElem?_set_self hl] at e
          have e' : L.v d = l := by simpa using e
          subst e'
          exact o.elim
        · rw [List.getElem?_eq_none (by simpa using hl)] at e
          cases e
      · rw [List.getElem?_set_ne (Ne.symm hj)] at e
        exact ⟨l, e, o⟩
    | cell k => exact hq
    | fld k j => exact hq
  refine ⟨I.sub, fun j l e => ?_, I.objs, I.len, fun p q hp hq => I.inj p q (live p hp) (live q hq), fun q hq => I.nof q (live q hq), I.keep, fun q hq => I.own q (live q hq), I.frz, I.grow, by
    show (s.sl.set i _).length ≤ (σ.set i _).length
    rw [List.length_set, List.length_set]
    exact I.sle⟩
  by_cases hj : j = i
  · subst hj
    by_cases hl : j < s.sl.length
    · have hi : j < σ.length := Nat.lt_of_lt_of_le hl I.sle
      have e2 : (s.sl.set j (some (.v d)))[j]? = some (some l) := e
      rw [List.getElem?_set_self hl] at e2
      have e' : L.v d = l := by simpa using e2
      subst e'
      exact ⟨x, by rw [List.getElem?_set_self hi], h⟩
    · have e2 : (s.sl.set j (some (.v d)))[j]? = some (some l) := e
      rw [List.getElem?_eq_none (by simpa using hl)] at e2
      cases e2
  · have e2 : (s.sl.set i (some (.v d)))[j]? = some (some l) := e
    rw [List.getElem?_set_ne (Ne.symm hj)] at e2
    obtain ⟨y, e3, e4⟩ := I.slots j l e2
    exact ⟨y, by rw [List.getElem?_set_ne (Ne.symm hj)]; exact e3, e4⟩
/-- slots forgotten -/
theorem SR.weak (I : SR g n w s σ H) {sl' : SL} {σ' : L2.St} (h : ∀ (i : Nat) (l : L), sl'[i]? = some (some l) → s.sl[i]? = some (some l)) (hs : ∀ (i : Nat) (l : L) (x : V), sl'[i]? = some (some l) → σ[i]? = some (some x) → σ'[i]? = some (some x)) (hz : sl'.length ≤ σ'.length) : SR g n w { s with sl := sl' } σ' H := by
  have live : ∀ q, Live sl' s.hs q → Live s.sl s.hs q := fun q hq => by
    cases q with
    | slot j =>
      obtain ⟨l, e, o⟩ := hq
      exact ⟨l, h j l e, o⟩
    | cell k => exact hq
    | fld k j => exact hq
  refine ⟨I.sub, fun j l e => ?_, I.objs, I.len, fun p q hp hq => I.inj p q (live p hp) (live q hq), fun q hq => I.nof q (live q hq), I.keep, fun q hq => I.own q (live q hq), I.frz, I.grow, hz⟩
  obtain ⟨x, e1, e2⟩ := I.slots j l (h j l e)
  exact ⟨x, hs j l x e e1, e2⟩

/-! ### calls -/
/-- what a callee finds -/
def enOf (w : Wd) (hs : HS) (H : Hp) : En := ⟨H, fun a => ∃ q, Live [] hs q ∧ w.ad q = a, w.F, w.io⟩
theorem SR.enter (I : SR g n w s σ H) : SR g (enOf w s.hs H) w ⟨[], s.hs⟩ [] H := by
  have live : ∀ q, Live [] s.hs q → Live s.sl s.hs q := fun q hq => by
    cases q with
    | slot j =>
      obtain ⟨l, e, o⟩ := hq
      simp at e
    | cell k => exact hq
    | fld k j => exact hq
  exact ⟨I.sub, fun i l e => by simp at e, I.objs, I.len, fun p q hp hq => I.inj p q (live p hp) (live q hq), fun q hq => I.nof q (live q hq), fun a o e _ => e, fun q hq => .inl ⟨q, hq, rfl⟩, fun a o e => .inl ⟨o, e⟩, Le.refl _ _, Nat.le_refl _⟩
theorem live_nil {hs : HS} {q : Loc} (h : Live [] hs q) : ∀ i, q ≠ .slot i := fun i e => by
  subst e
  obtain ⟨l, e, _⟩ := h
  simp at e
theorem SR.back (I : SR g n w s σ H) {w' : Wd} {hs' : HS} {H' : Hp} (B : SR g (enOf w s.hs H) w' ⟨[], hs'⟩ [] H') :
    SR g n { w' with sa := w.sa } ⟨s.sl, hs'⟩ σ H' := by
  have nW : ∀ i l, s.sl[i]? = some (some l) → OwnL l → ¬ (enOf w s.hs H).W (w.sa i) := fun i l e o ⟨q, hq, e2⟩ => by
    have hl : Live s.sl s.hs q := by
      cases q with
      | slot j => exact (live_nil hq j rfl).elim
      | cell k => exact hq
      | fld k j => exact hq
    have := I.inj q (.slot i) hl ⟨l, e, o⟩ e2
    exact live_nil hq i this
  have up : ∀ q, Live [] s.hs q → Live s.sl s.hs q := fun q hq => by
    cases q with
    | slot j => exact (live_nil hq j rfl).elim
    | cell k => exact hq
    | fld k j => exact hq
  -- a place of the callee's is none of my slots'
  have apart : ∀ q, Live [] hs' q → ∀ i l, s.sl[i]? = some (some l) → OwnL l → w'.ad q ≠ w.sa i := fun q hq i l e o z => by
    rcases B.own q hq with h | h
    · rw [z] at h
      exact nW i l e o h
    · obtain ⟨x, _, h2⟩ := I.slots i l e
      obtain ⟨u, h3⟩ := LV.has l o h2
      have h' : H (w'.ad q) = none := h
      rw [z, h3] at h'
      cases h'
  have fin : ∀ a o, n.H a = some o → ¬ n.W a → ¬ (enOf w s.hs H).W a := fun a o e nw ⟨q, hq, e2⟩ => by
    subst e2
    rcases I.own q (up q hq) with h | h
    · exact nw h
    · rw [h] at e
      cases e
  have back : ∀ a, H a = none → n.W a ∨ n.H a = none := fun a h => I.entry h
  have adE : ∀ q, (∀ i, q ≠ .slot i) → ({ w' with sa := w.sa } : Wd).ad q = w'.ad q := fun q hq => by
    cases q with
    | slot i => exact (hq i rfl).elim
    | cell k => rfl
    | fld k j => rfl
  have low : ∀ q, (∀ i, q ≠ .slot i) → Live s.sl hs' q → Live [] hs' q := fun q hq h => by
    cases q with
    | slot i => exact (hq i rfl).elim
    | cell k => exact h
    | fld k j => exact h
  refine ⟨B.sub, fun i l e => ?_, fun k o e => OR.mono (w := w') (w' := { w' with sa := w.sa }) (H := H') (Le.refl w'.F w'.io) o (fun _ _ _ _ z => z) (fun _ _ _ _ _ _ _ _ => ⟨rfl, fun _ z => z⟩) (B.objs k o e), B.len, fun p q hp hq e => ?_, fun q hq => ?_, fun a o e nw => B.keep a o (I.keep a o e nw) (fin a o e nw), fun q hq => ?_, fun a o e => ?_, I.grow.trans B.grow, I.sle⟩
  · obtain ⟨x, e1, e2⟩ := I.slots i l e
    exact ⟨x, e1, LV.mono B.grow l (fun o u q => B.keep _ u q (nW i l e o)) e2⟩
  · cases p with
    | slot i =>
      cases q with
      | slot j => exact I.inj _ _ hp hq e
      | cell k =>
        obtain ⟨l, e1, o⟩ := hp
        exact (apart (.cell k) hq i l e1 o e.symm).elim
      | fld k j =>
        obtain ⟨l, e1, o⟩ := hp
        exact (apart (.fld k j) hq i l e1 o e.symm).elim
    | cell k =>
      cases q with
      | slot j =>
        obtain ⟨l, e1, o⟩ := hq
        exact (apart (.cell k) hp j l e1 o e).elim
      | cell k' => exact B.inj _ _ hp hq e
      | fld k' j' => exact B.inj _ _ hp hq e
    | fld k j =>
      cases q with
      | slot j' =>
        obtain ⟨l, e1, o⟩ := hq
        exact (apart (.fld k j) hp j' l e1 o e).elim
      | cell k' => exact B.inj _ _ hp hq e
      | fld k' j' => exact B.inj _ _ hp hq e
  · cases q with
    | slot i =>
      obtain ⟨l, e, o⟩ := hq
      show w'.F (w.sa i) = none
      cases z : w'.F (w.sa i) with
      | none => rfl
      | some u =>
        rcases B.frz _ _ z with ⟨o', h⟩ | h | h
        · have := I.nof (.slot i) ⟨l, e, o⟩
          have h' : w.F (w.sa i) = some o' := h
          have this' : w.F (w.sa i) = none := this
          rw [this'] at h'
          cases h'
        · exact (nW i l e o h).elim
        · obtain ⟨x, _, h2⟩ := I.slots i l e
          obtain ⟨u', h3⟩ := LV.has l o h2
          have h' : H (w.sa i) = none := h
          rw [h3] at h'
          cases h'
    | cell k => exact B.nof (.cell k) hq
    | fld k j => exact B.nof (.fld k j) hq
  · cases q with
    | slot i =>
      obtain ⟨l, e, o⟩ := hq
      exact I.own (.slot i) ⟨l, e, o⟩
    | cell k =>
      rcases B.own (.cell k) hq with ⟨q, hq', e2⟩ | h
      · have z := I.own q (up q hq')
        rw [e2] at z
        exact z
      · exact back _ h
    | fld k j =>
      rcases B.own (.fld k j) hq with ⟨q, hq', e2⟩ | h
      · have z := I.own q (up q hq')
        rw [e2] at z
        exact z
      · exact back _ h
  · rcases B.frz a o e with ⟨o', h⟩ | ⟨q, hq', e2⟩ | h
    · exact I.frz a o' h
    · have z := I.own q (up q hq')
      rw [e2] at z
      exact .inr z
    · exact .inr (back a h)
end
end Mi

set_option linter.all false
set_option maxRecDepth 100000
set_option maxHeartbeats 4000000
/-! Mi: runs, what a reading has to give, sequencing. -/
namespace Mi
open PySem PySem.Spec PyProof.Rows L2

inductive R (α : Type) where
  | ok (a : α) (s : S)
  | exc (c : Nat) (s : S)
abbrev M (α : Type) := S → Option (R α)
def ret {α : Type} (a : α) : M α := fun s => some (.ok a s)
def bnd {α β : Type} (m : M α) (f : α → M β) : M β := fun s => match m s with
  | none => none
  | some (.exc c s') => some (.exc c s')
  | some (.ok a s') => f a s'
def lft {α : Type} (o : Option α) : M α := fun s => match o with
  | none => none
  | some a => some (.ok a s)
def stuck {α : Type} : M α := fun _ => none
@[simp] theorem ret_ap {α : Type} (a : α) (s : S) : ret a s = some (.ok a s) := rfl
@[simp] theorem bnd_ret {α β : Type} (a : α) (f : α → M β) : bnd (ret a) f = f a := rfl
theorem bnd_ok {α β : Type} {m : M α} {f : α → M β} {s s' : S} {a : α} (h : m s = some (.ok a s')) : bnd m f s = f a s' := by
  unfold bnd
  rw [h]
theorem bnd_exc {α β : Type} {m : M α} {f : α → M β} {s s' : S} {c : Nat} (h : m s = some (.exc c s')) : bnd m f s = some (.exc c s') := by
  unfold bnd
  rw [h]
@[simp] theorem lft_some {α : Type} (a : α) : lft (some a) = ret a := rfl
@[simp] theorem lft_none {α : Type} : lft (none : Option α) = stuck := rfl
@[simp] theorem stuck_ap {α : Type} (s : S) : (stuck : M α) s = none := rfl
inductive Fl where
  | nx | rt (d : D) | bk | ct

/-- what is wanted of a run that has come to its end -/
def Out {α : Type} (g : G) (n : En) (w : Wd) (σ : L2.St) (W : WX) (r : Option (R α)) (k : α → S → Prop) : Prop :=
  match r with
  | none => False
  | some (.ok a s') => k a s'
  | some (.exc c s') => ∀ dd w' H', SR g n w' s' σ H' → Le w.F w'.F w.io w'.io → W (.ref (g.C c)) dd σ H'
section
variable {α β : Type} {g : G} {n : En} {w w1 : Wd} {σ : L2.St} {W : WX} {s s' : S} {H H' : Hp}
theorem Out.mono {r : Option (R α)} {k k' : α → S → Prop} (h : Out g n w σ W r k) (hk : ∀ a s, k a s → k' a s) : Out g n w σ W r k' := by
  cases r with
  | none => exact h
  | some r =>
    cases r with
    | ok a s' => exact hk a s' h
    | exc c s' => exact h
theorem Out.le {r : Option (R α)} {k : α → S → Prop} (l : Le w.F w1.F w.io w1.io) (h : Out g n w σ W r k) : Out g n w1 σ W r k := by
  cases r with
  | none => exact h
  | some r =>
    cases r with
    | ok a s' => exact h
    | exc c s' => exact fun dd w' H' I l' => h dd w' H' I (l.trans l')
theorem Out.bnd {m : M α} {f : α → M β} {k : β → S → Prop} (h : Out g n w σ W (bnd m f s) k) : Out g n w σ W (m s) fun a s' => Out g n w σ W (f a s') k := by
  unfold Mi.bnd at h
  cases e : m s with
  | none =>
    rw [e] at h
    exact h
  | some r =>
    cases r with
    | ok a s' =>
      rw [e] at h
      exact h
    | exc c s' =>
      rw [e] at h
      exact h
theorem Out.lft {o : Option α} {k : α → S → Prop} (h : Out g n w σ W (lft o s) k) : ∃ a, o = some a ∧ k a s := by
  cases o with
  | none => exact h.elim
  | some a => exact ⟨a, rfl, h⟩

/-- behind an expression -/
def PostE (g : G) (n : En) (w : Wd) (σ : L2.St) (Q : VK) : D → S → Prop := fun d s' => ∀ v w' H', SR g n w' s' σ H' → Le w.F w'.F w.io w'.io → FV g w'.F w'.io d v → Q v H'
def PostT (g : G) (n : En) (w : Wd) (σ : L2.St) (Q : Bool → Hp → Prop) : Bool → S → Prop := fun b s' => ∀ w' H', SR g n w' s' σ H' → Le w.F w'.F w.io w'.io → Q b H'
def PostA (g : G) (n : En) (w : Wd) (σ : L2.St) (Q : List V → Hp → Prop) : List D → S → Prop := fun ds s' => ∀ vs w' H', SR g n w' s' σ H' → Le w.F w'.F w.io w'.io → FVs g w'.F w'.io ds vs → Q vs H'
/-- an object that nobody knows -/
structure Frh (n : En) (w : Wd) (s : S) (H : Hp) (p : Addr) (u : HO) : Prop where
  at_ : H p = some u
  F : w.F p = none
  ne : ∀ q, Live s.sl s.hs q → w.ad q ≠ p
  en : n.W p ∨ n.H p = none
/-- behind an expression that gives a new list -/
def PostL (g : G) (n : En) (w : Wd) (σ : L2.St) (Q : VK) : List D → S → Prop := fun ds s' => ∀ p vs w' H', SR g n w' s' σ H' → Le w.F w'.F w.io w'.io → Frh n w' s' H' p (.lst vs) → FVs g w'.F w'.io ds vs → Q (.ref p) H'
/-- behind a statement -/
def PostS (g : G) (n : En) (w : Wd) (d : Ends) : Fl → S → Prop
  | .nx, s' => ∀ w' σ' H', SR g n w' s' σ' H' → Le w.F w'.F w.io w'.io → d.nx σ' H'
  | .bk, s' => ∀ w' σ' H', SR g n w' s' σ' H' → Le w.F w'.F w.io w'.io → d.bk σ' H'
  | .ct, s' => ∀ w' σ' H', SR g n w' s' σ' H' → Le w.F w'.F w.io w'.io → d.ct σ' H'
  | .rt x, s' => ∀ v w' σ' H', SR g n w' s' σ' H' → Le w.F w'.F w.io w'.io → FV g w'.F w'.io x v → d.rt v H'
/-- exceptions of a statement: at whatever slots -/
def OutS (g : G) (n : En) (w : Wd) (W : WX) (r : Option (R Fl)) (k : Fl → S → Prop) : Prop :=
  match r with
  | none => False
  | some (.ok a s') => k a s'
  | some (.exc c s') => ∀ dd w' σ' H', SR g n w' s' σ' H' → Le w.F w'.F w.io w'.io → W (.ref (g.C c)) dd σ' H'
theorem OutS.mono {r : Option (R Fl)} {k k' : Fl → S → Prop} (h : OutS g n w W r k) (hk : ∀ a s, k a s → k' a s) : OutS g n w W r k' := by
  cases r with
  | none => exact h
  | some r =>
    cases r with
    | ok a s' => exact hk a s' h
    | exc c s' => exact h
theorem OutS.le {r : Option (R Fl)} {k : Fl → S → Prop} (l : Le w.F w1.F w.io w1.io) (h : OutS g n w W r k) : OutS g n w1 W r k := by
  cases r with
  | none => exact h
  | some r =>
    cases r with
    | ok a s' => exact h
    | exc c s' => exact fun dd w' σ' H' I l' => h dd w' σ' H' I (l.trans l')
/-- a statement that begins with an expression's run -/
theorem OutS.bnd {m : M α} {f : α → M Fl} {k : Fl → S → Prop} (h : OutS g n w W (Mi.bnd m f s) k) (σ : L2.St) : Out g n w σ W (m s) fun a s' => OutS g n w W (f a s') k := by
  unfold Mi.bnd at h
  cases e : m s with
  | none =>
    rw [e] at h
    exact h
  | some r =>
    cases r with
    | ok a s' =>
      rw [e] at h
      exact h
    | exc c s' =>
      rw [e] at h
      exact fun dd w' H' I l => h dd w' σ H' I l
theorem PostE.le {Q : VK} {d : D} (l : Le w.F w1.F w.io w1.io) (h : PostE g n w σ Q d s') : PostE g n w1 σ Q d s' := fun v w' H' I l' f => h v w' H' I (l.trans l') f
theorem PostT.le {Q : Bool → Hp → Prop} {b : Bool} (l : Le w.F w1.F w.io w1.io) (h : PostT g n w σ Q b s') : PostT g n w1 σ Q b s' := fun w' H' I l' => h w' H' I (l.trans l')
theorem PostA.le {Q : List V → Hp → Prop} {ds : List D} (l : Le w.F w1.F w.io w1.io) (h : PostA g n w σ Q ds s') : PostA g n w1 σ Q ds s' := fun v w' H' I l' f => h v w' H' I (l.trans l') f
theorem PostL.le {Q : VK} {ds : List D} (l : Le w.F w1.F w.io w1.io) (h : PostL g n w σ Q ds s') : PostL g n w1 σ Q ds s' := fun p vs w' H' I l' f z => h p vs w' H' I (l.trans l') f z
theorem PostS.le {d : Ends} {f : Fl} (l : Le w.F w1.F w.io w1.io) (h : PostS g n w d f s') : PostS g n w1 d f s' := by
  cases f with
  | nx => exact fun w' σ' H' I l' => h w' σ' H' I (l.trans l')
  | bk => exact fun w' σ' H' I l' => h w' σ' H' I (l.trans l')
  | ct => exact fun w' σ' H' I l' => h w' σ' H' I (l.trans l')
  | rt x => exact fun v w' σ' H' I l' z => h v w' σ' H' I (l.trans l') z
end

/-! ### readings that do what a run does -/
def RE (g : G) (W : WX) (t : TE) (m : M D) : Prop := ∀ n w s σ H Q, SR g n w s σ H → Out g n w σ W (m s) (PostE g n w σ Q) → t σ H Q
def RT (g : G) (W : WX) (t : TT) (m : M Bool) : Prop := ∀ n w s σ H Q, SR g n w s σ H → Out g n w σ W (m s) (PostT g n w σ Q) → t σ H Q
def RA (g : G) (W : WX) (t : TA) (m : M (List D)) : Prop := ∀ n w s σ H Q, SR g n w s σ H → Out g n w σ W (m s) (PostA g n w σ Q) → t σ H Q
def RL (g : G) (W : WX) (t : TE) (m : M (List D)) : Prop := ∀ n w s σ H Q, SR g n w s σ H → Out g n w σ W (m s) (PostL g n w σ Q) → t σ H Q
def RS (g : G) (W : WX) (t : TS) (m : M Fl) : Prop := ∀ n w s σ H d, SR g n w s σ H → OutS g n w W (m s) (PostS g n w d) → t d σ H
/-- by values: one, two, many -/
def R1 (g : G) (W : WX) (r : V → Hp → VK → Prop) (f : D → M D) : Prop := ∀ n w s σ H x d Q, SR g n w s σ H → FV g w.F w.io d x → Out g n w σ W (f d s) (PostE g n w σ Q) → r x H Q
def RR2 (g : G) (W : WX) (r : R2) (f : D → D → M D) : Prop := ∀ n w s σ H x y d e Q, SR g n w s σ H → FV g w.F w.io d x → FV g w.F w.io e y → Out g n w σ W (f d e s) (PostE g n w σ Q) → r x y H Q
def RN (g : G) (W : WX) (r : List V → Hp → VK → Prop) (f : List D → M D) : Prop := ∀ n w s σ H xs ds Q, SR g n w s σ H → FVs g w.F w.io ds xs → Out g n w σ W (f ds s) (PostE g n w σ Q) → r xs H Q
section
variable {g : G} {W : WX} {ta tb tc te : TE} {ma mb mc me : M D} {t u : TT} {p q : M Bool}
def eOp (f : D → D → M D) (a b : M D) : M D := bnd a fun x => bnd b fun y => f x y
def eUn (f : D → M D) (a : M D) : M D := bnd a f
def eVar (i : Nat) : M D := fun s => match s.sl[i]? with
  | some (some (.v d)) => some (.ok d s)
  | _ => none
theorem re_var (i : Nat) : RE g W (tVar i) (eVar i) := by
  intro n w s σ H Q I h
  unfold eVar at h
  cases e : s.sl[i]? with
  | none =>
    rw [e] at h
    exact h.elim
  | some o =>
    cases o with
    | none =>
      rw [e] at h
      exact h.elim
    | some l =>
      cases l with
      | v d =>
        rw [e] at h
        obtain ⟨x, e1, e2⟩ := I.slots i _ e
        exact ⟨x, e1, h x w H I (Le.refl _ _) e2⟩
      | ol ds =>
        rw [e] at h
        exact h.elim
      | od ks ds =>
        rw [e] at h
        exact h.elim
theorem re_c {v : V} {d : D} (hv : ∀ F io, FV g F io d v) : RE g W (tC v) (ret d) := fun n w s σ H Q I h => h v w H I (Le.refl _ _) (hv _ _)
theorem re_op {r : R2} {f : D → D → M D} (ha : RE g W ta ma) (hb : RE g W tb mb) (hr : RR2 g W r f) : RE g W (tOp r ta tb) (eOp f ma mb) := by
  intro n w s σ H Q I h
  refine ha n w s σ H _ I (h.bnd.mono fun d s1 h1 v w1 H1 I1 l1 f1 => ?_)
  refine hb n w1 s1 σ H1 _ I1 ((Out.le l1 h1.bnd).mono fun e s2 h2 y w2 H2 I2 l2 f2 => ?_)
  exact hr n w2 s2 σ H2 v y d e Q I2 (FV.mono l2 _ _ f1) f2 ((Out.le (l1.trans l2) h2).mono fun _ _ k => k.le (l1.trans l2))
theorem re_un {r : V → Hp → VK → Prop} {f : D → M D} (ha : RE g W ta ma) (hr : R1 g W r f) : RE g W (tUn r ta) (eUn f ma) := by
  intro n w s σ H Q I h
  refine ha n w s σ H _ I (h.bnd.mono fun d s1 h1 v w1 H1 I1 l1 f1 => ?_)
  exact hr n w1 s1 σ H1 v d Q I1 f1 ((Out.le l1 h1).mono fun _ _ k => k.le l1)
/-! arguments -/
def aNil : M (List D) := ret []
def aCons (a : M D) (r : M (List D)) : M (List D) := bnd a fun x => bnd r fun xs => ret (x :: xs)
theorem ra_nil : RA g W tNil aNil := fun n w s σ H Q I h => h [] w H I (Le.refl _ _) .nil
theorem ra_cons {tr : TA} {mr : M (List D)} (ha : RE g W ta ma) (hr : RA g W tr mr) : RA g W (tCons ta tr) (aCons ma mr) := by
  intro n w s σ H Q I h
  refine ha n w s σ H _ I (h.bnd.mono fun d s1 h1 v w1 H1 I1 l1 f1 => ?_)
  refine hr n w1 s1 σ H1 _ I1 ((Out.le l1 h1.bnd).mono fun ds s2 h2 vs w2 H2 I2 l2 f2 => ?_)
  exact h2 (v :: vs) w2 H2 I2 (l1.trans l2) (.cons (FV.mono l2 _ _ f1) f2)
/-! a call of a builtin by values -/
theorem re_cb {r : List V → Hp → VK → Prop} {tr : TA} {mr : M (List D)} {f : List D → M D} (ha : RA g W tr mr) (hr : RN g W r f) : RE g W (tCB r tr) (bnd mr f) := by
  intro n w s σ H Q I h
  refine ha n w s σ H _ I (h.bnd.mono fun ds s1 h1 vs w1 H1 I1 l1 f1 => ?_)
  exact hr n w1 s1 σ H1 vs ds Q I1 f1 ((Out.le l1 h1).mono fun _ _ k => k.le l1)
/-! displays -/
def lenOk (k : Nat) : Bool := decide (k ≤ 100000)
theorem lenOk_of {k : Nat} (h : lenOk k = true) : k ≤ sizeLine := Evl.sz_of (of_decide_eq_true h)
def eTup (m : M (List D)) : M D := bnd m fun ds => lft (if lenOk ds.length then some (.tup ds) else none)
theorem re_tup {tr : TA} {mr : M (List D)} (ha : RA g W tr mr) : RE g W (tTup tr) (eTup mr) := by
  intro n w s σ H Q I h
  refine ha n w s σ H _ I (h.bnd.mono fun ds s1 h1 vs w1 H1 I1 l1 f1 => ?_)
  obtain ⟨d, e, h2⟩ := h1.lft
  cases z : lenOk ds.length with
  | false =>
    rw [z] at e
    cases e
  | true =>
    rw [z] at e
    cases e
    refine ⟨by rw [← f1.len]; exact lenOk_of z, fun p hp => ?_⟩
    have J := I1.new (u := .tup vs) hp
    have l2 : Le w1.F (upd w1.F p (.tup vs)) w1.io w1.io := le_new (I1.Fnone hp)
    exact h2 _ _ _ J (l1.trans l2) ⟨p, vs, rfl, SqT.of upd_same, FVs.mono l2 _ _ f1⟩
/-- a new list: nobody knows it -/
theorem SR.newL {n : En} {w : Wd} {s : S} {σ : L2.St} {H : Hp} {p : Addr} {u : HO} (I : SR g n w s σ H) (hp : H p = none) : SR g n w s σ (upd H p u) ∧ Frh n w s (upd H p u) p u := by
  have hk : ∀ a o, H a = some o → upd H p u a = some o := fun a o e => by
    rw [upd_ne (ne_of_none e hp)]
    exact e
  refine ⟨⟨fun a o e => hk a o (I.sub a o e), fun i l e => ?_, fun k o e => ?_, I.len, I.inj, I.nof, fun a o e nw => hk a o (I.keep a o e nw), I.own, I.frz, I.grow, I.sle⟩, upd_same, I.Fnone hp, fun q hq => I.neW hp hq, I.entry hp⟩
  · obtain ⟨x, e1, e2⟩ := I.slots i l e
    exact ⟨x, e1, LV.mono (Le.refl _ _) l (fun _ o q => hk _ o q) e2⟩
  · exact OR.mono (w := w) (w' := w) (Le.refl _ _) o (fun _ a u' _ q => hk a u' q) (fun c ns ls j l _ _ _ => ⟨rfl, fun u' q => hk _ u' q⟩) (I.objs k o e)
/-- .. it is frozen -/
theorem SR.frz_new {n : En} {w : Wd} {s : S} {σ : L2.St} {H : Hp} {p : Addr} {u : HO} (I : SR g n w s σ H) (f : Frh n w s H p u) : SR g n { w with F := upd w.F p u } s σ H ∧ Le w.F (upd w.F p u) w.io w.io := by
  have le : Le w.F (upd w.F p u) w.io w.io := le_new f.F
  refine ⟨⟨fun a o e => ?_, fun i l e => ?_, fun k o e => ?_, I.len, I.inj, fun q hq => ?_, I.keep, I.own, fun a o e => ?_, I.grow.trans le, I.sle⟩, le⟩
  · have e : upd w.F p u a = some o := e
    by_cases ha : a = p
    · subst ha
      rw [upd_same] at e
      cases e
      exact f.at_
    · rw [upd_ne ha] at e
      exact I.sub a o e
  · obtain ⟨x, e1, e2⟩ := I.slots i l e
    exact ⟨x, e1, LV.mono le l (fun _ o q => q) e2⟩
  · exact OR.mono (w := w) (w' := { w with F := upd w.F p u }) le o (fun _ a u' _ q => q) (fun c ns ls j l _ _ _ => ⟨rfl, fun u' q => q⟩) (I.objs k o e)
  · show upd w.F p u (w.ad q) = none
    rw [upd_ne (f.ne q hq)]
    exact I.nof q hq
  · have e : upd w.F p u a = some o := e
    by_cases ha : a = p
    · subst ha
      rcases f.en with h | h
      · exact .inr (.inl h)
      · exact .inr (.inr h)
    · rw [upd_ne ha] at e
      exact I.frz a o e
def lLst (m : M (List D)) : M (List D) := bnd m fun ds => lft (if lenOk ds.length then some ds else none)
theorem rl_lst {tr : TA} {mr : M (List D)} (ha : RA g W tr mr) : RL g W (tLst tr) (lLst mr) := by
  intro n w s σ H Q I h
  refine ha n w s σ H _ I (h.bnd.mono fun ds s1 h1 vs w1 H1 I1 l1 f1 => ?_)
  obtain ⟨d, e, h2⟩ := h1.lft
  cases z : lenOk ds.length with
  | false =>
    rw [z] at e
    cases e
  | true =>
    rw [z] at e
    cases e
    refine ⟨by rw [← f1.len]; exact lenOk_of z, fun p hp => ?_⟩
    obtain ⟨J, fr⟩ := I1.newL (u := .lst vs) hp
    exact h2 p vs w1 _ J l1 fr f1
def eFrz (m : M (List D)) : M D := bnd m fun ds => ret (.lst ds)
theorem re_frz {t : TE} {m : M (List D)} (h : RL g W t m) : RE g W t (eFrz m) := by
  intro n w s σ H Q I hq
  refine h n w s σ H _ I (hq.bnd.mono fun ds s1 h1 p vs w1 H1 I1 l1 fr f1 => ?_)
  obtain ⟨J, le⟩ := I1.frz_new fr
  exact h1 _ _ _ J (l1.trans le) ⟨p, vs, rfl, SqL.of upd_same, FVs.mono le _ _ f1⟩

/-! ### tests -/
def D.asB : D → Option Bool
  | .bl b => some b
  | _ => none
def tVal (m : M D) : M Bool := bnd m fun d => lft d.asB
theorem asB_eq {d : D} {b : Bool} (h : d.asB = some b) : d = .bl b := by
  cases d <;> simp [D.asB] at h
  rw [h]
theorem rt_B (h : RE g W te me) : RT g W (tB te) (tVal me) := by
  intro n w s σ H Q I hq
  refine h n w s σ H _ I (hq.bnd.mono fun d s1 h1 v w1 H1 I1 l1 f1 => ?_)
  obtain ⟨b, e, h2⟩ := h1.lft
  rw [asB_eq e] at f1
  exact ⟨b, f1, h2 w1 H1 I1 l1⟩
def tAnd' (a b : M Bool) : M Bool := bnd a fun x => if x then b else ret false
def tOr' (a b : M Bool) : M Bool := bnd a fun x => if x then ret true else b
def tNot' (a : M Bool) : M Bool := bnd a fun x => ret (!x)
theorem rt_and (h1 : RT g W t p) (h2 : RT g W u q) : RT g W (tAnd t u) (tAnd' p q) := by
  intro n w s σ H Q I hq
  refine h1 n w s σ H _ I (hq.bnd.mono fun b s1 h w1 H1 I1 l1 => ?_)
  cases b with
  | true => exact h2 n w1 s1 σ H1 Q I1 ((Out.le l1 h).mono fun _ _ k => k.le l1)
  | false => exact h w1 H1 I1 l1
theorem rt_or (h1 : RT g W t p) (h2 : RT g W u q) : RT g W (tOr t u) (tOr' p q) := by
  intro n w s σ H Q I hq
  refine h1 n w s σ H _ I (hq.bnd.mono fun b s1 h w1 H1 I1 l1 => ?_)
  cases b with
  | false => exact h2 n w1 s1 σ H1 Q I1 ((Out.le l1 h).mono fun _ _ k => k.le l1)
  | true => exact h w1 H1 I1 l1
theorem rt_not (h1 : RT g W t p) : RT g W (tNot t) (tNot' p) := by
  intro n w s σ H Q I hq
  refine h1 n w s σ H _ I (hq.bnd.mono fun b s1 h w1 H1 I1 l1 => ?_)
  exact h w1 H1 I1 l1
/-! values -/
def eAnd (a b : M D) : M D := bnd a fun x => bnd (lft x.asB) fun c => if c then b else ret (.bl false)
def eOr (a b : M D) : M D := bnd a fun x => bnd (lft x.asB) fun c => if c then ret (.bl true) else b
def eNot (a : M D) : M D := bnd a fun x => bnd (lft x.asB) fun c => ret (.bl (!c))
theorem re_and (ha : RE g W ta ma) (hb : RE g W tb mb) : RE g W (tAndV ta tb) (eAnd ma mb) := by
  intro n w s σ H Q I hq
  refine ha n w s σ H _ I (hq.bnd.mono fun d s1 h1 v w1 H1 I1 l1 f1 => ?_)
  obtain ⟨b, e, h2⟩ := h1.bnd.lft
  rw [asB_eq e] at f1
  refine ⟨b, f1, ?_⟩
  cases b with
  | true => exact hb n w1 s1 σ H1 Q I1 ((Out.le l1 h2).mono fun _ _ k => k.le l1)
  | false => exact h2 _ w1 H1 I1 l1 rfl
theorem re_or (ha : RE g W ta ma) (hb : RE g W tb mb) : RE g W (tOrV ta tb) (eOr ma mb) := by
  intro n w s σ H Q I hq
  refine ha n w s σ H _ I (hq.bnd.mono fun d s1 h1 v w1 H1 I1 l1 f1 => ?_)
  obtain ⟨b, e, h2⟩ := h1.bnd.lft
  rw [asB_eq e] at f1
  refine ⟨b, f1, ?_⟩
  cases b with
  | false => exact hb n w1 s1 σ H1 Q I1 ((Out.le l1 h2).mono fun _ _ k => k.le l1)
  | true => exact h2 _ w1 H1 I1 l1 rfl
theorem re_not (ha : RE g W ta ma) : RE g W (tNotV ta) (eNot ma) := by
  intro n w s σ H Q I hq
  refine ha n w s σ H _ I (hq.bnd.mono fun d s1 h1 v w1 H1 I1 l1 f1 => ?_)
  obtain ⟨b, e, h2⟩ := h1.bnd.lft
  rw [asB_eq e] at f1
  exact ⟨b, f1, h2 _ w1 H1 I1 l1 rfl⟩
def eIf (c : M Bool) (a b : M D) : M D := bnd c fun x => if x then a else b
theorem re_if (hc : RT g W t p) (ha : RE g W ta ma) (hb : RE g W tb mb) : RE g W (tIf t ta tb) (eIf p ma mb) := by
  intro n w s σ H Q I hq
  refine hc n w s σ H _ I (hq.bnd.mono fun b s1 h w1 H1 I1 l1 => ?_)
  cases b with
  | true => exact ha n w1 s1 σ H1 Q I1 ((Out.le l1 h).mono fun _ _ k => k.le l1)
  | false => exact hb n w1 s1 σ H1 Q I1 ((Out.le l1 h).mono fun _ _ k => k.le l1)
end
end Mi

set_option linter.all false
set_option maxRecDepth 100000
set_option maxHeartbeats 4000000
/-! Mi: statements, loops. -/
namespace Mi
open PySem PySem.Spec PyProof.Rows L2
section
variable {g : G} {W : WX} {ta tb tc te : TE} {ma mb mc me : M D} {t u : TT} {p q : M Bool} {ts us : TS} {a b : M Fl}
def sNext : M Fl := ret .nx
def sBrk : M Fl := ret .bk
def sCnt : M Fl := ret .ct
def sSeq (a b : M Fl) : M Fl := fun s => match a s with
  | some (.ok .nx s') => b s'
  | r => r
theorem rs_next : RS g W tNext sNext := fun n w s σ H d I h => h w σ H I (Le.refl _ _)
theorem rs_brk : RS g W tBreak sBrk := fun n w s σ H d I h => h w σ H I (Le.refl _ _)
theorem rs_cnt : RS g W tCont sCnt := fun n w s σ H d I h => h w σ H I (Le.refl _ _)
theorem rs_seq (ha : RS g W ts a) (hb : RS g W us b) : RS g W (tSeq ts us) (sSeq a b) := by
  intro n w s σ H d I h
  refine ha n w s σ H _ I ?_
  unfold sSeq at h
  cases e : a s with
  | none =>
    rw [e] at h
    exact h
  | some r =>
    cases r with
    | exc c s' =>
      rw [e] at h
      exact h
    | ok f s' =>
      rw [e] at h
      cases f with
      | nx => exact fun w' σ' H' I' l => hb n w' s' σ' H' d I' ((OutS.le l h).mono fun _ _ k => k.le l)
      | bk => exact h
      | ct => exact h
      | rt x => exact h
def sDrop (m : M D) : M Fl := bnd m fun _ => ret .nx
theorem rs_drop (h : RE g W te me) : RS g W (tDrop te) (sDrop me) := by
  intro n w s σ H d I hq
  refine h n w s σ H _ I ((hq.bnd σ).mono fun x s1 h1 v w1 H1 I1 l1 f1 => ?_)
  exact h1 w1 σ H1 I1 l1
def sRet (m : M D) : M Fl := bnd m fun d => ret (.rt d)
theorem rs_ret (h : RE g W te me) : RS g W (tRet te) (sRet me) := by
  intro n w s σ H d I hq
  refine h n w s σ H _ I ((hq.bnd σ).mono fun x s1 h1 v w1 H1 I1 l1 f1 => ?_)
  exact h1 v w1 σ H1 I1 l1 f1
def sRetN : M Fl := ret (.rt .non)
theorem rs_retN : RS g W tRetN sRetN := fun n w s σ H d I h => h .non w σ H I (Le.refl _ _) rfl
def sIf (c : M Bool) (a b : M Fl) : M Fl := bnd c fun x => if x then a else b
theorem rs_if (hc : RT g W t p) (ha : RS g W ts a) (hb : RS g W us b) : RS g W (tIfS t ts us) (sIf p a b) := by
  intro n w s σ H d I hq
  refine hc n w s σ H _ I ((hq.bnd σ).mono fun x s1 h w1 H1 I1 l1 => ?_)
  cases x with
  | true => exact ha n w1 s1 σ H1 d I1 ((OutS.le l1 h).mono fun _ _ k => k.le l1)
  | false => exact hb n w1 s1 σ H1 d I1 ((OutS.le l1 h).mono fun _ _ k => k.le l1)
/-! targets -/
def PostG (g : G) (n : En) (w : Wd) (Q : L2.St → Hp → Prop) (r : Option (R Unit)) : Prop :=
  match r with
  | some (.ok _ s') => ∀ w' σ' H', SR g n w' s' σ' H' → Le w.F w'.F w.io w'.io → Q σ' H'
  | _ => False
def RG (g : G) (gt : TG) (f : D → M Unit) : Prop := ∀ n w s σ H x d Q, SR g n w s σ H → FV g w.F w.io d x → PostG g n w Q (f d s) → gt x σ H Q
def gSlot (i : Nat) : D → M Unit := fun d s => some (.ok () { s with sl := s.sl.set i (some (.v d)) })
theorem rg_slot (i : Nat) : RG g (gName i) (gSlot i) := fun n w s σ H x d Q I f h => h w _ H (I.setv f) (Le.refl _ _)
/-- m, then its value to a target -/
def sAsg (m : M D) (f : D → M Unit) : M Fl := bnd m fun d => bnd (f d) fun _ => ret .nx
theorem PostG.of {n : En} {w w1 : Wd} {s : S} {d : Ends} {r : M Unit} (l : Le w.F w1.F w.io w1.io) (h : OutS g n w W (bnd r (fun _ => ret Fl.nx) s) (PostS g n w d)) (hr : ∀ c s', r s ≠ some (.exc c s')) : PostG g n w1 d.nx (r s) := by
  unfold bnd at h
  cases e : r s with
  | none =>
    rw [e] at h
    exact h.elim
  | some z =>
    cases z with
    | exc c s' => exact (hr c s' e).elim
    | ok x s' =>
      rw [e] at h
      exact fun w' σ' H' I' l' => h w' σ' H' I' (l.trans l')
def NoX (f : D → M Unit) : Prop := ∀ d s c s', f d s ≠ some (.exc c s')
theorem nox_slot (i : Nat) : NoX (gSlot i) := fun d s c s' h => by cases h
theorem rs_asg {gt : TG} {f : D → M Unit} (h : RE g W te me) (hg : RG g gt f) (hx : NoX f) : RS g W (tAsg te gt) (sAsg me f) := by
  intro n w s σ H d I hq
  refine h n w s σ H _ I ((hq.bnd σ).mono fun x s1 h1 v w1 H1 I1 l1 f1 => ?_)
  exact hg n w1 s1 σ H1 v x d.nx I1 f1 (PostG.of l1 h1 (hx x s1))
/-- a name op= a value -/
def sAug (i : Nat) (f : D → D → M D) (m : M D) : M Fl := bnd (eVar i) fun x => bnd m fun y => bnd (f x y) fun z => bnd (gSlot i z) fun _ => ret .nx
theorem rs_aug {ti : TIp} {i : Nat} {f : D → D → M D} (h : RE g W te me) (hr : RR2 g W ti f) : RS g W (tAug i te ti) (sAug i f me) := by
  intro n w s σ H d I hq
  have h0 := re_var (g := g) (W := W) i n w s σ H (fun x H1 => te σ H1 fun y H1 => ti x y H1 fun z H2 => d.nx (σ.set i (some z)) H2) I
  obtain ⟨x, e, k⟩ := re_var (g := g) (W := W) i n w s σ H (fun x H1 => te σ H1 fun y H1 => ti x y H1 fun z H2 => d.nx (σ.set i (some z)) H2) I ((hq.bnd σ).mono fun dx s1 h1 v w1 H1 I1 l1 f1 => by
    refine h n w1 s1 σ H1 _ I1 ((Out.le l1 (h1.bnd σ)).mono fun dy s2 h2 y w2 H2 I2 l2 f2 => ?_)
    refine hr n w2 s2 σ H2 v y dx dy _ I2 (FV.mono l2 _ _ f1) f2 ((Out.le (l1.trans l2) (h2.bnd σ)).mono fun dz s3 h3 z w3 H3 I3 l3 f3 => ?_)
    exact h3 w3 _ H3 (I3.setv f3) ((l1.trans l2).trans l3))
  exact ⟨x, e, k⟩
/-- raise C(..) -/
def sRaise (c : Nat) : M Fl := fun s => some (.exc c s)
theorem rs_raise (c : Nat) : RS g W (fun _ σ H => W (.ref (g.C c)) none σ H) (sRaise c) := fun n w s σ H d I h => h none w σ H I (Le.refl _ _)

/-! ### for -/
def loopK (r : Option (R Fl)) (k : M Fl) : Option (R Fl) := match r with
  | some (.ok .nx s') => k s'
  | some (.ok .ct s') => k s'
  | some (.ok .bk s') => some (.ok .nx s')
  | r => r
def forL (f : D → M Unit) (body : M Fl) : List D → M Fl
  | [] => ret .nx
  | d :: ds => bnd (f d) fun _ s => loopK (body s) (forL f body ds)
/-- what is walked gives these -/
def WOk (g : G) (J : It) (ds : List D) (F : Hp) (io : List Addr) : Prop :=
  ∃ (Gd : Hp → Prop) (Y : Nat → Hp → V → Hp → Prop), Walk J ds.length Gd Y ∧ (∀ F' io' H, Le F F' io io' → (∀ a o, F' a = some o → H a = some o) → Gd H) ∧
    ∀ i H x H' n w s σ, i < ds.length → Y i H x H' → SR g n w s σ H → Le F w.F io w.io → ∃ d w', ds[i]? = some d ∧ SR g n w' s σ H' ∧ Le w.F w'.F w.io w'.io ∧ FV g w'.F w'.io d x
def RI (g : G) (W : WX) (wi : TI) (m : M (List D)) : Prop := ∀ n w s σ H R, SR g n w s σ H →
  Out g n w σ W (m s) (fun ds s' => ∀ J w' H', SR g n w' s' σ H' → Le w.F w'.F w.io w'.io → WOk g J ds w'.F w'.io → R J H') → wi σ H R
def sFor (m : M (List D)) (f : D → M Unit) (body : M Fl) : M Fl := bnd m fun ds => forL f body ds
theorem OutS.loop {n : En} {w : Wd} {r : Option (R Fl)} {k : M Fl} {d : Ends} (h : OutS g n w W (loopK r k) (PostS g n w d)) {N : L2.St → Hp → Prop}
    (hN : ∀ w' s' σ' H', SR g n w' s' σ' H' → Le w.F w'.F w.io w'.io → OutS g n w' W (k s') (PostS g n w' d) → N σ' H') : OutS g n w W r (PostS g n w { d with nx := N, ct := N, bk := d.nx }) := by
  cases r with
  | none => exact h
  | some r =>
    cases r with
    | exc c s' => exact h
    | ok f s' =>
      cases f with
      | nx => exact fun w' σ' H' I' l => hN w' s' σ' H' I' l ((OutS.le l h).mono fun _ _ k => k.le l)
      | ct => exact fun w' σ' H' I' l => hN w' s' σ' H' I' l ((OutS.le l h).mono fun _ _ k => k.le l)
      | bk => exact h
      | rt x => exact h
theorem rs_for {wi : TI} {gt : TG} {m : M (List D)} {f : D → M Unit} (hi : RI g W wi m) (hg : RG g gt f) (hx : NoX f) (hb : RS g W ts b) : RS g W (tFor wi gt ts) (sFor m f b) := by
  intro n w s σ H d I hq
  refine hi n w s σ H _ I ((hq.bnd σ).mono fun ds s1 h1 J w1 H1 I1 l1 wk => ?_)
  obtain ⟨Gd, Y, wk, hG, hY⟩ := wk
  refine for_it wk (fun i σ2 H2 => ∃ w2 s2, SR g n w2 s2 σ2 H2 ∧ Le w1.F w2.F w1.io w2.io ∧ OutS g n w2 W (forL f b (ds.drop i) s2) (PostS g n w2 d))
    ⟨w1, s1, I1, Le.refl _ _, by rw [List.drop_zero]; exact (OutS.le l1 h1).mono fun _ _ k => k.le l1⟩ (fun i σ2 H2 _ ⟨w2, s2, I2, l2, _⟩ => hG _ _ _ l2 I2.sub) ?_ ?_
  · rintro i x σ2 H2 H3 hlt ⟨w2, s2, I2, l2, h2⟩ y
    obtain ⟨dd, w3, e, I3, l3, f3⟩ := hY i H2 x H3 n w2 s2 σ2 hlt y I2 l2
    have e2 : ds.drop i = dd :: ds.drop (i + 1) := by
      obtain ⟨hh, e'⟩ := List.getElem?_eq_some_iff.mp e
      rw [List.drop_eq_getElem_cons hh, e']
    rw [e2] at h2
    have h3 : OutS g n w3 W (forL f b (dd :: ds.drop (i + 1)) s2) (PostS g n w3 d) := (OutS.le l3 h2).mono fun _ _ k => k.le l3
    refine hg n w3 s2 σ2 H3 x dd _ I3 f3 ?_
    cases z : f dd s2 with
    | none =>
      have h4 : OutS g n w3 W (bnd (f dd) (fun _ s => loopK (b s) (forL f b (ds.drop (i + 1)))) s2) (PostS g n w3 d) := h3
      unfold bnd at h4
      rw [z] at h4
      exact h4.elim
    | some r =>
      cases r with
      | exc c s' => exact (hx _ _ _ _ z).elim
      | ok _ s4 =>
        have h4 : OutS g n w3 W (bnd (f dd) (fun _ s => loopK (b s) (forL f b (ds.drop (i + 1)))) s2) (PostS g n w3 d) := h3
        unfold bnd at h4
        rw [z] at h4
        intro w4 σ4 H4 I4 l4
        refine hb n w4 s4 σ4 H4 _ I4 (OutS.loop ((OutS.le l4 h4).mono fun _ _ k => k.le l4) fun w5 s5 σ5 H5 I5 l5 h5 => ?_)
        exact ⟨w5, s5, I5, ((l2.trans l3).trans l4).trans l5, h5⟩
  · rintro σ2 H2 ⟨w2, s2, I2, l2, h2⟩
    rw [List.drop_length] at h2
    exact h2 w2 σ2 H2 I2 (Le.refl _ _)

/-! ### while -/
def whN (t : M Bool) (b : M Fl) : Nat → M Fl
  | 0 => stuck
  | k + 1 => bnd t fun c => if c then fun s => loopK (b s) (whN t b k) else ret .nx
theorem loopK_mono {r : Option (R Fl)} {k k' : M Fl} {z : R Fl} (hk : ∀ s z, k s = some z → k' s = some z) (h : loopK r k = some z) : loopK r k' = some z := by
  unfold loopK at h ⊢
  split at h <;> first | exact hk _ _ h | exact h | skip
  all_goals (split <;> simp_all)
theorem whN_mono {t : M Bool} {b : M Fl} : ∀ {k : Nat} {s : S} {z : R Fl}, whN t b k s = some z → whN t b (k + 1) s = some z
  | 0, _, _, h => by cases h
  | k + 1, s, z, h => by
    have h' : bnd t (fun c => if c then fun s => loopK (b s) (whN t b k) else ret .nx) s = some z := h
    show bnd t (fun c => if c then fun s => loopK (b s) (whN t b (k + 1)) else ret .nx) s = some z
    unfold bnd at h' ⊢
    cases e : t s with
    | none =>
      rw [e] at h'
      cases h'
    | some r =>
      cases r with
      | exc c s' =>
        rw [e] at h'
        exact h'
      | ok c s' =>
        rw [e] at h'
        cases c with
        | true => exact loopK_mono (fun s z hz => whN_mono hz) h'
        | false => exact h'
theorem whN_le {t : M Bool} {b : M Fl} {k k' : Nat} {s : S} {z : R Fl} (h : whN t b k s = some z) (hk : k ≤ k') : whN t b k' s = some z := by
  induction hk with
  | refl => exact h
  | step _ ih => exact whN_mono ih
open Classical in
noncomputable def whl (t : M Bool) (b : M Fl) : M Fl := fun s => if h : ∃ k z, whN t b k s = some z then some (Classical.choose (Classical.choose_spec h)) else none
theorem whl_of {t : M Bool} {b : M Fl} {k : Nat} {s : S} {z : R Fl} (h : whN t b k s = some z) : whl t b s = some z := by
  have hx : ∃ k z, whN t b k s = some z := ⟨k, z, h⟩
  unfold whl
  rw [dif_pos hx]
  have h1 := Classical.choose_spec (Classical.choose_spec hx)
  have a1 := whN_le h (Nat.le_max_left k (Classical.choose hx))
  have a2 := whN_le h1 (Nat.le_max_right k (Classical.choose hx))
  rw [a1] at a2
  exact a2.symm
theorem whl_some {t : M Bool} {b : M Fl} {s : S} {z : R Fl} (h : whl t b s = some z) : ∃ k, whN t b k s = some z := by
  unfold whl at h
  split at h
  · rename_i hx
    cases h
    exact ⟨_, Classical.choose_spec (Classical.choose_spec hx)⟩
  · cases h
/-- one turn -/
theorem whl_eq (t : M Bool) (b : M Fl) (s : S) : whl t b s = bnd t (fun c => if c then fun s => loopK (b s) (whl t b) else ret .nx) s := by
  cases e : whl t b s with
  | some z =>
    obtain ⟨k, h⟩ := whl_some e
    cases k with
    | zero => cases h
    | succ k =>
      have h' : bnd t (fun c => if c then fun s => loopK (b s) (whN t b k) else ret .nx) s = some z := h
      symm
      unfold bnd at h' ⊢
      cases e : t s with
      | none =>
        rw [e] at h'
        cases h'
      | some r =>
        cases r with
        | exc c s' =>
          rw [e] at h'
          exact h'
        | ok c s' =>
          rw [e] at h'
          cases c with
          | true => exact loopK_mono (fun s z hz => whl_of hz) h'
          | false => exact h'
  | none =>
    symm
    cases e2 : bnd t (fun c => if c then fun s => loopK (b s) (whl t b) else ret .nx) s with
    | none => rfl
    | some z =>
      have : ∃ k, whN t b k s = some z := by
        unfold bnd at e2
        cases e3 : t s with
        | none =>
          rw [e3] at e2
          cases e2
        | some r =>
          cases r with
          | exc c s' =>
            rw [e3] at e2
            refine ⟨1, ?_⟩
            show bnd t _ s = _
            unfold bnd
            rw [e3]
            exact e2
          | ok c s' =>
            rw [e3] at e2
            cases c with
            | false =>
              refine ⟨1, ?_⟩
              show bnd t _ s = _
              unfold bnd
              rw [e3]
              exact e2
            | true =>
              have e4 : loopK (b s') (whl t b) = some z := e2
              have go : ∀ s1, whl t b s1 = some z → ∃ k, whN t b k s1 = some z := fun s1 h => whl_some h
              unfold loopK at e4
              split at e4
              · rename_i s1 hb
                obtain ⟨k, hk⟩ := go _ e4
                refine ⟨k + 1, ?_⟩
                show bnd t _ s = _
                unfold bnd
                rw [e3]
                show loopK (b s') (whN t b k) = _
                rw [hb]
                exact hk
              · rename_i s1 hb
                obtain ⟨k, hk⟩ := go _ e4
                refine ⟨k + 1, ?_⟩
                show bnd t _ s = _
                unfold bnd
                rw [e3]
                show loopK (b s') (whN t b k) = _
                rw [hb]
                exact hk
              · rename_i s1 hb
                refine ⟨1, ?_⟩
                show bnd t _ s = _
                unfold bnd
                rw [e3]
                show loopK (b s') (whN t b 0) = _
                rw [hb]
                exact e4
              · rename_i hb1 hb2 hb3
                refine ⟨1, ?_⟩
                show bnd t _ s = _
                unfold bnd
                rw [e3]
                show loopK (b s') (whN t b 0) = _
                unfold loopK
                split <;> first | exact e4 | (rename_i s1 hb; exact (hb1 _ hb).elim) | (rename_i s1 hb; exact (hb2 _ hb).elim) | (rename_i s1 hb; exact (hb3 _ hb).elim)
      obtain ⟨k, hk⟩ := this
      have := whl_of hk
      rw [e] at this
      cases this
theorem rs_while (hc : RT g W t p) (hb : RS g W ts b) : RS g W (tWhile t ts) (whl p b) := by
  intro n w s σ H d I hq
  cases e : whl p b s with
  | none =>
    rw [e] at hq
    exact hq.elim
  | some z =>
    obtain ⟨k, hk⟩ := whl_some e
    rw [← hk.trans e.symm] at hq
    refine ⟨fun k σ H => ∃ w1 s1, SR g n w1 s1 σ H ∧ OutS g n w1 W (whN p b k s1) (PostS g n w1 d), ⟨k, w, s, I, hq⟩, ?_⟩
    rintro k σ1 H1 ⟨w1, s1, I1, h1⟩
    cases k with
    | zero => exact h1.elim
    | succ k =>
      have h2 : OutS g n w1 W (bnd p (fun c => if c then fun s => loopK (b s) (whN p b k) else ret .nx) s1) (PostS g n w1 d) := h1
      refine hc n w1 s1 σ1 H1 _ I1 ((h2.bnd σ1).mono fun x s2 h w2 H2 I2 l2 => ?_)
      cases x with
      | true =>
        rw [if_pos rfl]
        refine ⟨fun σ' H' => ∃ w' s', SR g n w' s' σ' H' ∧ OutS g n w' W (whN p b k s') (PostS g n w' d), fun σ' H' z => ⟨k, Nat.lt_succ_self k, z⟩, ?_⟩
        exact hb n w2 s2 σ1 H2 _ I2 (OutS.loop ((OutS.le l2 h).mono fun _ _ k => k.le l2) fun w5 s5 σ5 H5 I5 l5 h5 => ⟨w5, s5, I5, h5⟩)
      | false =>
        rw [if_neg Bool.false_ne_true]
        exact h w2 σ1 H2 I2 l2
end
end Mi

set_option linter.all false
set_option maxRecDepth 100000
set_option maxHeartbeats 4000000
/-! Mi: operators by values. -/
namespace Mi
open PySem PySem.Spec PyProof.Rows L2

/-! ### data as PyData -/
mutual
def D.py : D → PyData
  | .non => .none
  | .bl b => .bool b
  | .int i => .int i
  | .str x => .str x
  | .tup ds => .tuple (pyAll ds)
  | .lst ds => .list (pyAll ds)
  | .dic _ _ => .none
  | .ref _ => .none
  | .fo _ _ _ => .none
  | .exc _ => .none
def pyAll : List D → List PyData
  | [] => []
  | d :: ds => d.py :: pyAll ds
end
mutual
/-- nothing but None, bools, ints, texts, tuples, lists -/
def D.dat : D → Bool
  | .non => true
  | .bl _ => true
  | .int _ => true
  | .str _ => true
  | .tup ds => datAll ds
  | .lst ds => datAll ds
  | .dic _ _ => false
  | .ref _ => false
  | .fo _ _ _ => false
  | .exc _ => false
def datAll : List D → Bool
  | [] => true
  | d :: ds => d.dat && datAll ds
end
mutual
theorem FV.dp {g : G} {F : Hp} {io : List Addr} {H : Hp} (hs : ∀ a o, F a = some o → H a = some o) : ∀ (d : D) (v : V), d.dat = true → FV g F io d v → Dp g.K H v d.py
  | .non, v, _, h => by
    have e : v = .non := h
    rw [e]
    exact .non
  | .bl b, v, _, h => by
    have e : v = .bl b := h
    rw [e]
    exact .bl b
  | .int i, v, _, h => by
    have e : v = .int i := h
    rw [e]
    exact .int i
  | .str x, v, _, h => by
    have e : v = .str x := h
    rw [e]
    exact .str x
  | .tup ds, v, k, h => by
    obtain ⟨a, vs, rfl, h1, h2⟩ := h
    refine .tup (xs := vs) ?_ (FVs.dp hs ds vs k h2)
    rcases h1 with (h1 | ⟨o, h1⟩) | h1
    · exact .inl (.inl (hs _ _ h1))
    · exact .inl (.inr ⟨o, hs _ _ h1⟩)
    · exact .inr h1
  | .lst ds, v, k, h => by
    obtain ⟨a, vs, rfl, h1, h2⟩ := h
    refine .lst (xs := vs) ?_ (FVs.dp hs ds vs k h2)
    rcases h1 with (h1 | ⟨o, h1⟩) | h1
    · exact .inl (.inl (hs _ _ h1))
    · exact .inl (.inr ⟨o, hs _ _ h1⟩)
    · exact .inr h1
  | .dic _ _, _, k, _ => by cases k
  | .ref _, _, k, _ => by cases k
  | .fo _ _ _, _, k, _ => by cases k
  | .exc _, _, k, _ => by cases k
theorem FVs.dp {g : G} {F : Hp} {io : List Addr} {H : Hp} (hs : ∀ a o, F a = some o → H a = some o) : ∀ (ds : List D) (vs : List V), datAll ds = true → FVs g F io ds vs → DpAll g.K H vs (pyAll ds)
  | [], vs, _, h => by
    have e : vs = [] := h
    rw [e]
    exact .nil
  | d :: ds, vs, k, h => by
    obtain ⟨v, r, rfl, h1, h2⟩ := h
    have k' : (d.dat && datAll ds) = true := k
    obtain ⟨k1, k2⟩ := Bool.and_eq_true_iff.mp k'
    exact .cons (FV.dp hs d v k1 h1) (FVs.dp hs ds r k2 h2)
end
theorem sqT_sub {K : PySem.W.Frag} {F H : Hp} {a : Addr} {vs : List V} (hs : ∀ a o, F a = some o → H a = some o) (h : SqT K F a vs) : SqT K H a vs := by
  rcases h with (h | ⟨o, h⟩) | h
  · exact .inl (.inl (hs _ _ h))
  · exact .inl (.inr ⟨o, hs _ _ h⟩)
  · exact .inr h
theorem sqL_sub {K : PySem.W.Frag} {F H : Hp} {a : Addr} {vs : List V} (hs : ∀ a o, F a = some o → H a = some o) (h : SqL K F a vs) : SqL K H a vs := by
  rcases h with (h | ⟨o, h⟩) | h
  · exact .inl (.inl (hs _ _ h))
  · exact .inl (.inr ⟨o, hs _ _ h⟩)
  · exact .inr h
def okD (d : D) : Bool := d.dat && SeqAt.shaped d.py
/-- scalars -/
def sceq : D → D → Option Bool
  | .int i, .int j => some (decide (i = j))
  | .str x, .str y => some (decide (x = y))
  | .bl a, .bl b => some (decide (a = b))
  | .non, .int _ => some false
  | .int _, .non => some false
  | .non, .str _ => some false
  | .str _, .non => some false
  | .non, .bl _ => some false
  | .bl _, .non => some false
  | .non, .non => some true
  | .int _, .str _ => some false
  | .str _, .int _ => some false
  | .bl _, .str _ => some false
  | .str _, .bl _ => some false
  | _, _ => none
def deq (d e : D) : Option Bool := match sceq d e with
  | some b => some b
  | none => if okD d && okD e then some (PyData.eqv d.py e.py) else none
section
variable {g : G} {W : WX} {X : Cx}
def fEq : D → D → M D := fun d e => lft ((deq d e).map .bl)
def fNe : D → D → M D := fun d e => lft ((deq d e).map fun b => .bl (!b))
def rEqU (K : PySem.W.Frag) : R2 := fun x y H Q => rEq x y H Q ∨ rEqD K x y H Q
def rNeU (K : PySem.W.Frag) : R2 := fun x y H Q => rNe x y H Q ∨ rNeD K x y H Q
theorem sceq_ok {F : Hp} {io : List Addr} {d e : D} {x y : V} {b : Bool} (hx : FV g F io d x) (hy : FV g F io e y) (h : sceq d e = some b) : scal x y = true ∧ decide (x = y) = b := by
  unfold sceq at h
  split at h <;> first | (cases h; fail) | skip
  all_goals (try (cases h))
  all_goals (first
    | (have e1 : x = _ := hx
       have e2 : y = _ := hy
       subst e1 e2
       refine ⟨rfl, ?_⟩
       simp))
theorem rr_eq : RR2 g W (rEqU g.K) fEq := by
  intro n w s σ H x y d e Q I hx hy h
  obtain ⟨z, e1, h1⟩ := h.lft
  unfold deq at e1
  cases q : sceq d e with
  | some b =>
    rw [q] at e1
    cases e1
    obtain ⟨k1, k2⟩ := sceq_ok hx hy q
    refine .inl ⟨k1, ?_⟩
    rw [k2]
    exact h1 _ w H I (Le.refl _ _) rfl
  | none =>
    rw [q] at e1
    have e2 : (if okD d && okD e then some (PyData.eqv d.py e.py) else none).map D.bl = some z := e1
    cases k : okD d && okD e with
    | false =>
      rw [k] at e2
      cases e2
    | true =>
      rw [k] at e2
      cases e2
      obtain ⟨k1, k2⟩ := Bool.and_eq_true_iff.mp k
      obtain ⟨k3, k4⟩ := Bool.and_eq_true_iff.mp k1
      obtain ⟨k5, k6⟩ := Bool.and_eq_true_iff.mp k2
      exact .inr ⟨_, _, FV.dp I.sub d x k3 hx, FV.dp I.sub e y k5 hy, k4, k6, h1 _ w H I (Le.refl _ _) rfl⟩
theorem rr_ne : RR2 g W (rNeU g.K) fNe := by
  intro n w s σ H x y d e Q I hx hy h
  obtain ⟨z, e1, h1⟩ := h.lft
  unfold deq at e1
  cases q : sceq d e with
  | some b =>
    rw [q] at e1
    cases e1
    obtain ⟨k1, k2⟩ := sceq_ok hx hy q
    refine .inl ⟨k1, ?_⟩
    rw [k2]
    exact h1 _ w H I (Le.refl _ _) rfl
  | none =>
    rw [q] at e1
    have e2 : (if okD d && okD e then some (PyData.eqv d.py e.py) else none).map (fun b => D.bl (!b)) = some z := e1
    cases k : okD d && okD e with
    | false =>
      rw [k] at e2
      cases e2
    | true =>
      rw [k] at e2
      cases e2
      obtain ⟨k1, k2⟩ := Bool.and_eq_true_iff.mp k
      obtain ⟨k3, k4⟩ := Bool.and_eq_true_iff.mp k1
      obtain ⟨k5, k6⟩ := Bool.and_eq_true_iff.mp k2
      exact .inr ⟨_, _, FV.dp I.sub d x k3 hx, FV.dp I.sub e y k5 hy, k4, k6, h1 _ w H I (Le.refl _ _) rfl⟩
theorem op_eqU (hu : X.A.units + 64 < cLine) : OpR X (compareOp .Eq) (rEqU X.K) := op_eq.or (op_eqD hu)
theorem op_neU (hu : X.A.units + 64 < cLine) : OpR X (compareOp .NotEq) (rNeU X.K) := op_ne.or (op_neD hu)

/-! ### + -/
def fAdd : D → D → M D
  | .int i, .int j => ret (.int (i + j))
  | .str x, .str y => if lenOk (x.length + y.length) then ret (.str (x ++ y)) else stuck
  | .tup a, .tup b => if lenOk a.length && lenOk b.length && lenOk (a.length + b.length) then ret (.tup (a ++ b)) else stuck
  | .lst a, .lst b => if lenOk (a.length + b.length) then ret (.lst (a ++ b)) else stuck
  | _, _ => stuck
/-- two lists that are read -/
def rCatS (K : PySem.W.Frag) : R2 := fun x y H Q => ∃ l b xs zs, x = .ref l ∧ y = .ref b ∧ SqL K H l xs ∧ SqL K H b zs ∧ xs.length + zs.length ≤ sizeLine ∧ ∀ p, H p = none → Q (.ref p) (upd H p (.lst (xs ++ zs)))
theorem op_catS : OpR X (binaryOp .Add) (rCatS X.K) := by
  intro pins s σ H x y v u Q I rx ry h
  obtain ⟨l, b, xs, zs, rfl, rfl, hH, hB, hz, q⟩ := h
  cases rx
  cases ry
  obtain ⟨its, r, p1, _⟩ := I.list hH
  obtain ⟨its2, r2, p2, _⟩ := I.list hB
  obtain ⟨⟨cls, dd, data, sl⟩, ho, hc, n, hd⟩ := p1.isList
  obtain ⟨⟨cls2, dd2, data2, sl2⟩, ho2, hc2, n2, hd2⟩ := p2.isList
  simp only at hc hd hc2 hd2
  subst hc hd hc2 hd2
  have e : its.toArray ++ its2.toArray = (its ++ its2).toArray := by simp
  have h1 := r.length
  have h2 := r2.length
  refine concat_meets ⟨_, ho, rfl⟩ ⟨_, ho2, rfl⟩ noFill_list_add seq_list_add PySem.F.slot_list_add PySem.F.entry_list_add (PySem.F.args_list_add_2 _ _) (list_addW l b its.toArray its2.toArray n n2 dd dd2 sl sl2 (by simp; omega)) ⟨ho, ho2, ?_⟩
  rw [e]
  exact ⟨.ref _, _, I.lnew (t' := s.toks) (r.append r2) (by rw [List.length_append]; omega), rfl, q _ I.fresh⟩
def rAddU (K : PySem.W.Frag) : R2 := fun x y H Q => rI0 (fun i j => .int (i + j)) x y H Q ∨ (∃ i j, x = .str i ∧ y = .str j ∧ i.length + j.length ≤ sizeLine ∧ Q (.str (i ++ j)) H) ∨ rCatA K x y H Q ∨ rCatS K x y H Q
theorem op_addU : OpR X (binaryOp .Add) (rAddU X.K) := op_add.or (op_add_str.or (op_catA.or op_catS))
theorem rr_add : RR2 g W (rAddU g.K) fAdd := by
  intro n w s σ H x y d e Q I hx hy h
  unfold fAdd at h
  split at h
  · rename_i i j
    exact .inl ⟨i, j, hx, hy, h _ w H I (Le.refl _ _) rfl⟩
  · rename_i a b
    cases z : lenOk (a.length + b.length) with
    | false =>
      rw [z] at h
      exact h.elim
    | true =>
      rw [z] at h
      exact .inr (.inl ⟨a, b, hx, hy, lenOk_of z, h _ w H I (Le.refl _ _) rfl⟩)
  · rename_i as bs
    cases z : lenOk as.length && lenOk bs.length && lenOk (as.length + bs.length) with
    | false =>
      rw [z] at h
      exact h.elim
    | true =>
      rw [z] at h
      obtain ⟨z1, z2⟩ := Bool.and_eq_true_iff.mp z
      obtain ⟨a, vs, rfl, h1, h2⟩ := hx
      obtain ⟨b, us, rfl, h3, h4⟩ := hy
      have l1 := h2.len
      have l2 := h4.len
      refine .inr (.inr (.inl ⟨a, b, vs, us, rfl, rfl, sqT_sub I.sub h1, sqT_sub I.sub h3, by rw [← l1, ← l2]; exact lenOk_of z2, fun e0 => ?_, fun _ e0 => ?_, fun _ _ p hp => ?_⟩))
      · subst e0
        refine h _ w H I (Le.refl _ _) ⟨b, us, rfl, h3, ?_⟩
        rw [show as = [] by cases as with | nil => rfl | cons _ _ => simp at l1]
        exact h4
      · subst e0
        refine h _ w H I (Le.refl _ _) ⟨a, vs, rfl, h1, ?_⟩
        rw [show bs = [] by cases bs with | nil => rfl | cons _ _ => simp at l2, List.append_nil]
        exact h2
      · have J := I.new (u := .tup (vs ++ us)) hp
        have le : Le w.F (upd w.F p (.tup (vs ++ us))) w.io w.io := le_new (I.Fnone hp)
        exact h _ _ _ J le ⟨p, _, rfl, SqT.of upd_same, (FVs.mono le _ _ h2).append (FVs.mono le _ _ h4)⟩
  · rename_i as bs
    cases z : lenOk (as.length + bs.length) with
    | false =>
      rw [z] at h
      exact h.elim
    | true =>
      rw [z] at h
      obtain ⟨a, vs, rfl, h1, h2⟩ := hx
      obtain ⟨b, us, rfl, h3, h4⟩ := hy
      have l1 := h2.len
      have l2 := h4.len
      refine .inr (.inr (.inr ⟨a, b, vs, us, rfl, rfl, sqL_sub I.sub h1, sqL_sub I.sub h3, by rw [← l1, ← l2]; exact lenOk_of z, fun p hp => ?_⟩))
      have J := I.new (u := .lst (vs ++ us)) hp
      have le : Le w.F (upd w.F p (.lst (vs ++ us))) w.io w.io := le_new (I.Fnone hp)
      exact h _ _ _ J le ⟨p, _, rfl, SqL.of upd_same, (FVs.mono le _ _ h2).append (FVs.mono le _ _ h4)⟩
  · exact h.elim

/-! ### the other int operators -/
def mulOk (i j : Int) : Bool := decide (Builtin.Int.intBits i + Builtin.Int.intBits j ≤ 134217728) || decide (Builtin.Int.intBits i ≤ 64) || decide (Builtin.Int.intBits j ≤ 64)
theorem mulOk_of {i j : Int} (h : mulOk i j = true) : IntMulOk i j := by
  unfold mulOk at h
  simp only [Bool.or_eq_true, decide_eq_true_eq] at h
  rcases h with (h1 | h1) | h1
  · have e : bitsLine = 134217728 := by decide
    unfold IntMulOk
    intro z
    rw [Bool.and_eq_true] at z
    have z2 := z.2
    unfold Builtin.Int.intTooBig at z2
    have z3 := of_decide_eq_true z2
    rw [e] at z3
    omega
  · exact .of_left h1
  · exact .of_right h1
def divOk (j : Int) : Bool := decide (j ≠ 0) && decide (j.natAbs.log2 < 9000)
def fInt (f : Int → Int → Option D) : D → D → M D
  | .int i, .int j => lft (f i j)
  | _, _ => stuck
def fSub : D → D → M D := fInt fun i j => some (.int (i - j))
def fMul : D → D → M D := fInt fun i j => if mulOk i j then some (.int (i * j)) else none
def fDiv : D → D → M D := fInt fun i j => if divOk j then some (.int (i.fdiv j)) else none
def fMod : D → D → M D := fInt fun i j => if decide (j ≠ 0) then some (.int (i.fmod j)) else none
def fPow : D → D → M D := fInt fun i j => if decide (0 ≤ j) && decide (j ≤ 1000) && decide (i.natAbs < 2 ^ 64) then some (.int (i ^ j.toNat)) else none
def fLt : D → D → M D := fInt fun i j => some (.bl (decide (i < j)))
def fLe : D → D → M D := fInt fun i j => some (.bl (decide (i ≤ j)))
def fGt : D → D → M D := fInt fun i j => some (.bl (decide (j < i)))
def fGe : D → D → M D := fInt fun i j => some (.bl (decide (j ≤ i)))
theorem rr_int {C : Int → Int → Prop} {G : Int → Int → V} {f : Int → Int → Option D} (hc : ∀ i j d, f i j = some d → C i j ∧ ∀ F io, FV g F io d (G i j)) : RR2 g W (rI C G) (fInt f) := by
  intro n w s σ H x y d e Q I hx hy h
  unfold fInt at h
  split at h
  · rename_i i j
    obtain ⟨z, e1, h1⟩ := h.lft
    obtain ⟨c1, c2⟩ := hc i j z e1
    exact ⟨i, j, hx, hy, c1, h1 _ w H I (Le.refl _ _) (c2 _ _)⟩
  · exact h.elim
theorem rr_int0 {G : Int → Int → V} {f : Int → Int → D} (hc : ∀ i j F io, FV g F io (f i j) (G i j)) : RR2 g W (rI0 G) (fInt fun i j => some (f i j)) := by
  intro n w s σ H x y d e Q I hx hy h
  unfold fInt at h
  split at h
  · rename_i i j
    exact ⟨i, j, hx, hy, h _ w H I (Le.refl _ _) (hc _ _ _ _)⟩
  · exact h.elim
theorem rr_sub : RR2 g W (rI0 fun i j => .int (i - j)) fSub := rr_int0 fun _ _ _ _ => rfl
theorem rr_lt : RR2 g W (rI0 fun i j => .bl (decide (i < j))) fLt := rr_int0 fun _ _ _ _ => rfl
theorem rr_le : RR2 g W (rI0 fun i j => .bl (decide (i ≤ j))) fLe := rr_int0 fun _ _ _ _ => rfl
theorem rr_gt : RR2 g W (rI0 fun i j => .bl (decide (j < i))) fGt := rr_int0 fun _ _ _ _ => rfl
theorem rr_ge : RR2 g W (rI0 fun i j => .bl (decide (j ≤ i))) fGe := rr_int0 fun _ _ _ _ => rfl
theorem rr_mul : RR2 g W (rI IntMulOk fun i j => .int (i * j)) fMul := rr_int fun i j d e => by
  cases z : mulOk i j with
  | false =>
    simp [z] at e
  | true =>
    simp [z] at e
    subst e
    exact ⟨mulOk_of z, fun _ _ => rfl⟩
theorem op_mulM : OpR X (binaryOp .Mult) (rI IntMulOk fun i j => .int (i * j)) := opI fun _ _ _ _ _ _ _ hc q => mul_int q hc
def CDivM (_ j : Int) : Prop := j ≠ 0 ∧ j.natAbs.log2 < 9000
theorem op_fdivM : OpR X (binaryOp .FloorDiv) (rI CDivM fun i j => .int (i.fdiv j)) := opI fun i j _ _ _ _ _ hc q => floordiv_int hc.1 q (.inl (PyProof.noPylong_of_log2 hc.2))
theorem rr_div : RR2 g W (rI CDivM fun i j => .int (i.fdiv j)) fDiv := rr_int fun i j d e => by
  cases z : divOk j with
  | false =>
    simp [z] at e
  | true =>
    simp [z] at e
    subst e
    obtain ⟨z1, z2⟩ := Bool.and_eq_true_iff.mp z
    exact ⟨⟨of_decide_eq_true z1, of_decide_eq_true z2⟩, fun _ _ => rfl⟩
theorem rr_mod : RR2 g W (rI (fun _ j => j ≠ 0) fun i j => .int (i.fmod j)) fMod := rr_int fun i j d e => by
  cases z : decide (j ≠ 0) with
  | false =>
    rw [if_neg (by rw [z]; decide)] at e
    cases e
  | true =>
    rw [if_pos z] at e
    cases e
    exact ⟨of_decide_eq_true z, fun _ _ => rfl⟩
theorem rr_pow : RR2 g W (rI CPow fun i j => .int (i ^ j.toNat)) fPow := rr_int fun i j d e => by
  cases z : decide (0 ≤ j) && decide (j ≤ 1000) && decide (i.natAbs < 2 ^ 64) with
  | false =>
    rw [if_neg (by rw [z]; decide)] at e
    cases e
  | true =>
    rw [if_pos z] at e
    cases e
    obtain ⟨z1, z2⟩ := Bool.and_eq_true_iff.mp z
    obtain ⟨z3, z4⟩ := Bool.and_eq_true_iff.mp z1
    have h4 : j ≤ 1000 := of_decide_eq_true z4
    exact ⟨⟨of_decide_eq_true z3, by omega, of_decide_eq_true z2⟩, fun _ _ => rfl⟩
/-! ### one operand -/
def fNeg : D → M D
  | .int i => ret (.int (-i))
  | _ => stuck
theorem r1_neg : R1 g W (rU fun i => .int (-i)) fNeg := by
  intro n w s σ H x d Q I hx h
  unfold fNeg at h
  split at h
  · rename_i i
    exact ⟨i, hx, h _ w H I (Le.refl _ _) rfl⟩
  · exact h.elim
/-! ### is None -/
def D.isN : D → Bool
  | .non => true
  | _ => false
def fIsN : D → D → M D
  | d, .non => ret (.bl d.isN)
  | _, _ => stuck
def fNotN : D → D → M D
  | d, .non => ret (.bl (!d.isN))
  | _, _ => stuck
theorem isN_of {F : Hp} {io : List Addr} {d : D} {x : V} (h : FV g F io d x) : decide (x = .non) = d.isN := by
  cases d with
  | non =>
    have e : x = .non := h
    rw [e]
    rfl
  | bl b =>
    have e : x = .bl b := h
    rw [e]
    rfl
  | int i =>
    have e : x = .int i := h
    rw [e]
    rfl
  | str z =>
    have e : x = .str z := h
    rw [e]
    rfl
  | tup ds =>
    obtain ⟨a, vs, rfl, _⟩ := h
    rfl
  | lst ds =>
    obtain ⟨a, vs, rfl, _⟩ := h
    rfl
  | dic ks ds =>
    obtain ⟨a, vs, rfl, _⟩ := h
    rfl
  | ref k =>
    obtain ⟨a, rfl, _⟩ := h
    rfl
  | fo c ns ds =>
    obtain ⟨a, dx, vs, rfl, _⟩ := h
    rfl
  | exc c => exact h.elim
theorem rr_isN : RR2 g W rIsN fIsN := by
  intro n w s σ H x y d e Q I hx hy h
  unfold fIsN at h
  split at h
  · refine ⟨hy, ?_⟩
    rw [isN_of hx]
    exact h _ w H I (Le.refl _ _) rfl
  · exact h.elim
theorem rr_notN : RR2 g W rNotN fNotN := by
  intro n w s σ H x y d e Q I hx hy h
  unfold fNotN at h
  split at h
  · refine ⟨hy, ?_⟩
    rw [isN_of hx]
    exact h _ w H I (Le.refl _ _) rfl
  · exact h.elim
end
end Mi

set_option linter.all false
set_option maxRecDepth 100000
set_option maxHeartbeats 4000000
/-! Mi: subscripts, slices, membership, lengths, truth. -/
namespace Mi
open PySem PySem.Spec PyProof.Rows L2

/-! ### dicts by parallel lists -/
def look : List Key → List D → Key → Option D
  | k :: ks, d :: ds, x => if k = x then some d else look ks ds x
  | _, _, _ => none
def D.key : D → Option Key
  | .int i => some (.inl i)
  | .str x => some (.inr x)
  | _ => none
section
variable {g : G} {W : WX} {X : Cx} {F : Hp} {io : List Addr}
theorem key_of {d : D} {v : V} {k : Key} (h : FV g F io d v) (e : d.key = some k) : v = kV k := by
  cases d <;> simp [D.key] at e
  · subst e
    exact h
  · subst e
    exact h
theorem look_of {ks : List Key} : ∀ {ds : List D} {vs : List V} {x : Key}, FVs g F io ds vs → ks.length = ds.length → (∀ d, look ks ds x = some d → ∃ v, valV (ks.zip vs) x = some v ∧ FV g F io d v) ∧ (look ks ds x = none → valV (ks.zip vs) x = none) := by
  induction ks with
  | nil =>
    intro ds vs x h hl
    refine ⟨fun d e => ?_, fun _ => rfl⟩
    cases ds <;> cases e
  | cons k ks ih =>
    intro ds vs x h hl
    cases ds with
    | nil => cases hl
    | cons d ds =>
      obtain ⟨v, r, rfl, h1, h2⟩ := h
      have hl' : ks.length = ds.length := by simpa using hl
      obtain ⟨i1, i2⟩ := ih (x := x) h2 hl'
      show (∀ d', (if k = x then some d else look ks ds x) = some d' → ∃ u, valV ((k, v) :: ks.zip r) x = some u ∧ FV g F io d' u) ∧ ((if k = x then some d else look ks ds x) = none → valV ((k, v) :: ks.zip r) x = none)
      by_cases hk : k = x
      · rw [if_pos hk, valV_pos (p := (k, v)) hk]
        refine ⟨fun d' e => ?_, fun e => by cases e⟩
        cases e
        exact ⟨v, rfl, h1⟩
      · rw [if_neg hk, valV_neg (p := (k, v)) hk]
        exact ⟨i1, i2⟩

/-! ### subscripts -/
def ix_dictR : R2 := fun x y H Q => ∃ a v, x = .ref a ∧ DGet H a y (some v) ∧ Q v H
theorem ix_dict (hu : X.A.units + 1 < cLine) : IxR X ix_dictR := by
  intro value slice pins s σ H x y v u Q I rx ry h hs
  obtain ⟨a, z, rfl, gd, q⟩ := h
  cases rx
  unfold subscriptTail
  refine wpAny_bind ?_
  rw [getitemInPython_of_ne (dict_typeIs I gd).not_modules]
  refine wpAny_bind (wpAny_specialOf (dict_typeIs I gd) PySem.F.slot_dict_getitem.lookup ?_)
  have fin : wpAny (model X.prog X.w) X.A (subscripted slice false (.ref a) u) (fun r s₃ => wpAny (model X.prog X.w) X.A (letTemporaryGo value (.ref a) r >>= fun _ => pure r) (EP X pins σ Q) X.xe s₃) X.xe s := by
    rw [hs]
    exact wpAny_operating (wpAny_mono (d_getItem hu I gd ry fun w' s3 I3 rw' => (show EP X pins σ Q w' s3 from ⟨z, H, I3, rw', q⟩)) (fun r s₃ h₃ => wpAny_bind (wpAny_letTemporaryGo (wpAny_pure h₃))) fun _ _ x => x)
  first
    | exact wpAny_pure (wpAny_bind fin)
    | exact wpAny_bind (wpAny_pure (wpAny_bind fin))
    | exact wpAny_bind fin
/-- the contents behind a value: its items, or its pairs -/
def asL (hs : HS) : D → Option (List D)
  | .lst ds => some ds
  | .ref n => match hs[n]? with
    | some (.lst ds) => some ds
    | _ => none
  | _ => none
def asK (hs : HS) : D → Option (List Key × List D)
  | .dic ks ds => some (ks, ds)
  | .ref n => match hs[n]? with
    | some (.dic ks ds) => some (ks, ds)
    | _ => none
  | _ => none
theorem asL_of {n : En} {w : Wd} {s : S} {σ : L2.St} {H : Hp} {d : D} {v : V} {ds : List D} (I : SR g n w s σ H) (h : FV g w.F w.io d v) (e : asL s.hs d = some ds) : ∃ a vs, v = .ref a ∧ SqL g.K H a vs ∧ FVs g w.F w.io ds vs := by
  unfold asL at e
  split at e
  · cases e
    obtain ⟨a, vs, e1, h1, h2⟩ := h
    exact ⟨a, vs, e1, sqL_sub I.sub h1, h2⟩
  · rename_i k
    split at e
    · rename_i ds' e1
      cases e
      obtain ⟨a, e2, e3⟩ := h
      obtain ⟨a', vs, h1, h2, h3⟩ := I.objs k _ e1
      rw [e3] at h1
      cases h1
      exact ⟨a, vs, e2, SqL.of h2, h3⟩
    · cases e
  · cases e
theorem asK_of {n : En} {w : Wd} {s : S} {σ : L2.St} {H : Hp} {d : D} {v : V} {ks : List Key} {ds : List D} (I : SR g n w s σ H) (h : FV g w.F w.io d v) (e : asK s.hs d = some (ks, ds)) :
    ∃ a vs, v = .ref a ∧ Rd H a (.dK (ks.zip vs)) ∧ ks.length = ds.length ∧ FVs g w.F w.io ds vs := by
  unfold asK at e
  split at e
  · cases e
    obtain ⟨a, vs, e1, h1, h2, h3⟩ := h
    refine ⟨a, vs, e1, ?_, h2, h3⟩
    rcases h1 with h1 | ⟨o, h1⟩
    · exact .inl (I.sub _ _ h1)
    · exact .inr ⟨o, I.sub _ _ h1⟩
  · rename_i k
    split at e
    · rename_i ks' ds' e1
      cases e
      obtain ⟨a, e2, e3⟩ := h
      obtain ⟨a', vs, h1, h2, h3, h4⟩ := I.objs k _ e1
      rw [e3] at h1
      cases h1
      exact ⟨a, vs, e2, .inl h2, h3, h4⟩
    · cases e
  · cases e
theorem ixN_len {m k : Nat} (h : m = k) (i : Int) : ixN m i = ixN k i := by rw [h]
theorem atI_of {ds : List D} {vs : List V} {i : Int} {d : D} (h : FVs g F io ds vs) (e : atI ds i = some d) : ∃ v, atI vs i = some v ∧ FV g F io d v := by
  unfold atI at e ⊢
  rw [← h.len]
  cases z : ixN ds.length i with
  | none =>
    rw [z] at e
    cases e
  | some j =>
    rw [z] at e
    obtain ⟨v, e1, e2⟩ := h.get (i := j) (d := d) e
    exact ⟨v, e1, e2⟩
def D.asI : D → Option Int
  | .int i => some i
  | _ => none
theorem asI_eq {d : D} {i : Int} (h : d.asI = some i) : d = .int i := by
  cases d <;> simp [D.asI] at h
  rw [h]
def idxO (hs : HS) (d k : D) : Option D := match d with
  | .tup ds => k.asI.bind (atI ds)
  | .str z => if lenOk z.length then k.asI.bind fun i => (atI z.cps.toList i).map fun c => .str ⟨#[c]⟩ else none
  | d => match asK hs d with
    | some kd => k.key.bind (look kd.1 kd.2)
    | none => (asL hs d).bind fun ds => k.asI.bind (atI ds)
def fIdx : D → D → M D := fun d k s => lft (idxO s.hs d k) s
def rIdxU (K : PySem.W.Frag) : R2 := fun x y H Q => rIx K x y H Q ∨ ix_dictR x y H Q
theorem ix_U (hu : X.A.units + 1 < cLine) : IxR X (rIdxU X.K) := ix_seq.or (ix_dict hu)
theorem rr_idx : RR2 g W (rIdxU g.K) fIdx := by
  intro n w s σ H x y d e Q I hx hy h
  obtain ⟨z, e1, h1⟩ := Out.lft (o := idxO s.hs d e) h
  have gen : (match asK s.hs d with
    | some kd => e.key.bind (look kd.1 kd.2)
    | none => (asL s.hs d).bind fun ds => e.asI.bind (atI ds)) = some z → rIdxU g.K x y H Q := fun e1 => by
    cases ek : asK s.hs d with
    | some kd =>
      obtain ⟨ks, ds⟩ := kd
      rw [ek] at e1
      obtain ⟨k, e2, e3⟩ := Option.bind_eq_some_iff.mp e1
      obtain ⟨a, vs, rfl, h2, h3, h4⟩ := asK_of I hx ek
      obtain ⟨v, e5, e4⟩ := (look_of (x := k) h4 h3).1 z e3
      exact .inr ⟨a, v, rfl, .inl ⟨_, k, h2, key_of hy e2, e5.symm⟩, h1 v w H I (Le.refl _ _) e4⟩
    | none =>
      rw [ek] at e1
      obtain ⟨ds, e2, e3⟩ := Option.bind_eq_some_iff.mp e1
      obtain ⟨i, e4, e5⟩ := Option.bind_eq_some_iff.mp e3
      obtain ⟨a, vs, rfl, h2, h3⟩ := asL_of I hx e2
      obtain ⟨v, e6, e7⟩ := atI_of h3 e5
      rw [asI_eq e4] at hy
      exact .inl (.inl ⟨a, vs, i, v, rfl, hy, h2, e6, h1 v w H I (Le.refl _ _) e7⟩)
  cases d with
  | tup ds =>
    obtain ⟨i, e4, e5⟩ := Option.bind_eq_some_iff.mp (show e.asI.bind (atI ds) = some z from e1)
    obtain ⟨a, vs, rfl, h2, h3⟩ := hx
    obtain ⟨v, e2, e3⟩ := atI_of h3 e5
    rw [asI_eq e4] at hy
    exact .inl (.inr (.inl ⟨a, vs, i, v, rfl, hy, sqT_sub I.sub h2, e2, h1 v w H I (Le.refl _ _) e3⟩))
  | str zs =>
    have e1 : (if lenOk zs.length then e.asI.bind fun i => (atI zs.cps.toList i).map fun c => D.str ⟨#[c]⟩ else none) = some z := e1
    cases q : lenOk zs.length with
    | false =>
      rw [q] at e1
      cases e1
    | true =>
      rw [q] at e1
      obtain ⟨i, e4, e5⟩ := Option.bind_eq_some_iff.mp e1
      obtain ⟨c, e6, e7⟩ := Option.map_eq_some_iff.mp e5
      subst e7
      rw [asI_eq e4] at hy
      exact .inl (.inr (.inr ⟨zs, i, c, hx, hy, lenOk_of q, e6, h1 _ w H I (Le.refl _ _) rfl⟩))
  | lst ds => exact gen e1
  | dic ks ds => exact gen e1
  | ref k => exact gen e1
  | fo c ns ds => exact gen e1
  | exc c => exact gen e1
  | non => exact gen e1
  | bl b => exact gen e1
  | int i => exact gen e1

/-! ### slices -/
/-- [lo:hi] of a list of anything -/
def cutL {α : Type} (xs : List α) (lo hi : Option Int) : List α := (xs.drop (HT.sIx xs.length 0 lo)).take (HT.sIx xs.length xs.length hi - HT.sIx xs.length 0 lo)
theorem cutL_of {ds : List D} {vs : List V} (h : FVs g F io ds vs) (lo hi : Option Int) : FVs g F io (cutL ds lo hi) (cutV vs lo hi) := by
  unfold cutL cutV
  rw [← h.len]
  exact (h.drop _).take _
/-- the bounds: none, or a whole number -/
def RO (g : G) (W : WX) (t : TO) (m : M (Option Int)) : Prop := ∀ n w s σ H (Q : Option Int → Hp → Prop), SR g n w s σ H → Out g n w σ W (m s) (fun o s' => ∀ w' H', SR g n w' s' σ H' → Le w.F w'.F w.io w'.io → Q o H') → t σ H Q
def oNone : M (Option Int) := ret none
def oSome (m : M D) : M (Option Int) := bnd m fun d => lft (d.asI.map some)
theorem ro_none : RO g W tNoPart oNone := fun n w s σ H Q I h => h w H I (Le.refl _ _)
theorem ro_some {te : TE} {me : M D} (h : RE g W te me) : RO g W (tPart te) (oSome me) := by
  intro n w s σ H Q I hq
  refine h n w s σ H _ I (hq.bnd.mono fun d s1 h1 v w1 H1 I1 l1 f1 => ?_)
  obtain ⟨o, e, h2⟩ := h1.lft
  obtain ⟨i, e1, e2⟩ := Option.map_eq_some_iff.mp e
  subst e2
  rw [asI_eq e1] at f1
  exact ⟨i, f1, h2 w1 H1 I1 l1⟩
def cutStr (z : Str) (lo hi : Option Int) : Str := cutS z lo hi
/-- a slice, frozen -/
def slO (hs : HS) (d : D) (lo hi : Option Int) : Option D := match d with
  | .tup ds => some (.tup (cutL ds lo hi))
  | .str z => if lenOk z.length then some (.str (cutS z lo hi)) else none
  | d => (asL hs d).map fun ds => .lst (cutL ds lo hi)
def rSlU (K : PySem.W.Frag) : V → Option Int → Option Int → Hp → VK → Prop := fun x lo hi H Q => rSlA K x lo hi H Q ∨ rSlS x lo hi H Q ∨ rSlL K x lo hi H Q
theorem sl_U : SlR X (rSlU X.K) := sl_tupA.or (sl_str.or sl_list)
def eSl (a : M D) (lo hi : M (Option Int)) : M D := bnd a fun d => bnd lo fun l => bnd hi fun u s => lft (slO s.hs d l u) s
theorem re_sl {ta : TE} {ma : M D} {tl th : TO} {ml mh : M (Option Int)} (ha : RE g W ta ma) (hl : RO g W tl ml) (hh : RO g W th mh) : RE g W (tSl (rSlU g.K) ta tl th) (eSl ma ml mh) := by
  intro n w s σ H Q I h
  refine ha n w s σ H _ I (h.bnd.mono fun d s1 h1 x w1 H1 I1 l1 f1 => ?_)
  refine hl n w1 s1 σ H1 _ I1 ((Out.le l1 h1.bnd).mono fun lo s2 h2 w2 H2 I2 l2 => ?_)
  refine hh n w2 s2 σ H2 _ I2 ((Out.le (l1.trans l2) h2.bnd).mono fun hi s3 h3 w3 H3 I3 l3 => ?_)
  obtain ⟨z, e1, h4⟩ := Out.lft (o := slO s3.hs d lo hi) h3
  have f3 : FV g w3.F w3.io d x := FV.mono (l2.trans l3) _ _ f1
  have L := (l1.trans l2).trans l3
  have gen : ((asL s3.hs d).map fun ds => D.lst (cutL ds lo hi)) = some z → rSlU g.K x lo hi H3 Q := fun e1 => by
    obtain ⟨ds, e2, e3⟩ := Option.map_eq_some_iff.mp e1
    subst e3
    obtain ⟨a, vs, rfl, k1, k2⟩ := asL_of I3 f3 e2
    refine .inr (.inr ⟨a, vs, rfl, k1, fun p hp => ?_⟩)
    have J := I3.new (u := .lst (cutV vs lo hi)) hp
    have le : Le w3.F (upd w3.F p (.lst (cutV vs lo hi))) w3.io w3.io := le_new (I3.Fnone hp)
    exact h4 _ _ _ J (L.trans le) ⟨p, _, rfl, SqL.of upd_same, FVs.mono le _ _ (cutL_of k2 lo hi)⟩
  cases d with
  | tup ds =>
    have e1 : some (D.tup (cutL ds lo hi)) = some z := e1
    cases e1
    obtain ⟨a, vs, rfl, k1, k2⟩ := f3
    refine .inl ⟨a, vs, rfl, sqT_sub I3.sub k1, fun hw => ?_, fun _ p hp => ?_⟩
    · refine h4 _ w3 H3 I3 L ⟨a, vs, rfl, k1, ?_⟩
      have e2 : cutL ds lo hi = ds := by
        unfold cutL
        rw [k2.len, hw.1, hw.2, ← k2.len]
        simp
      rw [e2]
      exact k2
    · have J := I3.new (u := .tup (cutV vs lo hi)) hp
      have le : Le w3.F (upd w3.F p (.tup (cutV vs lo hi))) w3.io w3.io := le_new (I3.Fnone hp)
      exact h4 _ _ _ J (L.trans le) ⟨p, _, rfl, SqT.of upd_same, FVs.mono le _ _ (cutL_of k2 lo hi)⟩
  | str zs =>
    have e1 : (if lenOk zs.length then some (D.str (cutS zs lo hi)) else none) = some z := e1
    cases q : lenOk zs.length with
    | false =>
      rw [q] at e1
      cases e1
    | true =>
      rw [q] at e1
      cases e1
      exact .inr (.inl ⟨zs, f3, lenOk_of q, h4 _ w3 H3 I3 L rfl⟩)
  | lst ds => exact gen e1
  | dic ks ds => exact gen e1
  | ref k => exact gen e1
  | fo c ns ds => exact gen e1
  | exc c => exact gen e1
  | non => exact gen e1
  | bl b => exact gen e1
  | int i => exact gen e1

/-! ### in, not in -/
def D.flat : D → Bool
  | .non => true
  | .bl _ => true
  | .int _ => true
  | .str _ => true
  | _ => false
def feq : D → D → Bool
  | .non, .non => true
  | .bl a, .bl b => a == b
  | .bl a, .int b => (if a then 1 else 0) == b
  | .int a, .bl b => a == (if b then 1 else 0)
  | .int a, .int b => a == b
  | .str a, .str b => a == b
  | _, _ => false
def inD (d : D) (ds : List D) : Bool := ds.any fun e => feq e d
theorem flat_of {d : D} {v : V} (h : FV g F io d v) (f : d.flat = true) : flatV v = true := by
  cases d <;> simp [D.flat] at f <;> (have e : v = _ := h; rw [e]; rfl)
theorem feq_of {d e : D} {x y : V} (hx : FV g F io d x) (hy : FV g F io e y) (f1 : d.flat = true) (f2 : e.flat = true) : eqV x y = feq d e := by
  cases d <;> simp [D.flat] at f1 <;> cases e <;> simp [D.flat] at f2 <;> (have e1 : x = _ := hx; have e2 : y = _ := hy; rw [e1, e2]; rfl)
theorem flats_of : ∀ {ds : List D} {vs : List V}, FVs g F io ds vs → ds.all D.flat = true → vs.all flatV = true
  | [], vs, h, _ => by
    have e : vs = [] := h
    rw [e]
    rfl
  | d :: ds, _, h, f => by
    obtain ⟨v, r, rfl, h1, h2⟩ := h
    rw [List.all_cons, Bool.and_eq_true] at f
    rw [List.all_cons, Bool.and_eq_true]
    exact ⟨flat_of h1 f.1, flats_of h2 f.2⟩
theorem inD_of {d : D} {x : V} (hx : FV g F io d x) (fx : d.flat = true) : ∀ {ds : List D} {vs : List V}, FVs g F io ds vs → ds.all D.flat = true → inV x vs = inD d ds
  | [], vs, h, _ => by
    have e : vs = [] := h
    rw [e]
    rfl
  | e :: ds, _, h, f => by
    obtain ⟨v, r, rfl, h1, h2⟩ := h
    rw [List.all_cons, Bool.and_eq_true] at f
    show (eqV v x || inV x r) = (feq e d || inD d ds)
    rw [feq_of h1 hx f.1 fx, inD_of hx fx h2 f.2]
/-- one text within another -/
def inS (a b : Str) : Bool := !(Builtin.Str.occurrences b a 0 b.length 1).isEmpty
def inO (hs : HS) (x d : D) : Option Bool := match d with
  | .tup ds => if x.flat && ds.all D.flat then some (inD x ds) else none
  | .str b => match x with
    | .str a => some (inS a b)
    | _ => none
  | d => match asK hs d with
    | some kd => x.key.map fun k => (look kd.1 kd.2 k).isSome
    | none => (asL hs d).bind fun ds => if x.flat && ds.all D.flat then some (inD x ds) else none
def fIn : D → D → M D := fun x d s => lft ((inO s.hs x d).map D.bl) s
def fNin : D → D → M D := fun x d s => lft ((inO s.hs x d).map fun b => D.bl (!b)) s
def rInD (neg : Bool) : R2 := fun y x H Q => ∃ a o, x = .ref a ∧ DGet H a y o ∧ Q (.bl (if neg then !o.isSome else o.isSome)) H
theorem op_inD (hu : X.A.units + 1 < cLine) : OpR X (compareOp .In) (rInD false) := by
  intro pins s σ H x y v u Q I rx ry h
  obtain ⟨a, o, rfl, gd, q⟩ := h
  cases ry
  exact d_in hu I gd rx fun s3 I3 => ⟨.bl o.isSome, H, I3, rfl, q⟩
theorem op_ninD (hu : X.A.units + 1 < cLine) : OpR X (compareOp .NotIn) (rInD true) := by
  intro pins s σ H x y v u Q I rx ry h
  obtain ⟨a, o, rfl, gd, q⟩ := h
  cases ry
  exact d_notIn hu I gd rx fun s3 I3 => ⟨.bl (!o.isSome), H, I3, rfl, q⟩
def rInU (K : PySem.W.Frag) (neg : Bool) : R2 := fun x y H Q => rIn K neg x y H Q ∨ (∃ i j, x = .str i ∧ y = .str j ∧ Q (.bl (if neg then !inS i j else inS i j)) H) ∨ rInD neg x y H Q
theorem op_inU (hu : X.A.units + 1 < cLine) : OpR X (compareOp .In) (rInU X.K false) := by
  have h1 : OpR X (compareOp .In) (fun x y H Q => ∃ i j, x = .str i ∧ y = .str j ∧ Q (.bl (if false then !inS i j else inS i j)) H) := fun pins s σ H x y v u Q I rx ry h => op_in_str pins s σ H x y v u Q I rx ry h
  exact op_in_seq.or (h1.or (op_inD hu))
theorem op_ninU (hu : X.A.units + 1 < cLine) : OpR X (compareOp .NotIn) (rInU X.K true) := by
  have h1 : OpR X (compareOp .NotIn) (fun x y H Q => ∃ i j, x = .str i ∧ y = .str j ∧ Q (.bl (if true then !inS i j else inS i j)) H) := fun pins s σ H x y v u Q I rx ry h => op_notin_str pins s σ H x y v u Q I rx ry h
  exact op_notIn_seq.or (h1.or (op_ninD hu))
theorem rr_inG {neg : Bool} {n : En} {w : Wd} {s : S} {σ : L2.St} {H : Hp} {x y : V} {d e : D} {b : Bool} {Q : VK} (I : SR g n w s σ H) (hx : FV g w.F w.io d x) (hy : FV g w.F w.io e y) (h : inO s.hs d e = some b)
    (q : Q (.bl (if neg then !b else b)) H) : rInU g.K neg x y H Q := by
  have gen : (match asK s.hs e with
    | some kd => d.key.map fun k => (look kd.1 kd.2 k).isSome
    | none => (asL s.hs e).bind fun ds => if d.flat && ds.all D.flat then some (inD d ds) else none) = some b → rInU g.K neg x y H Q := fun e1 => by
    cases ek : asK s.hs e with
    | some kd =>
      obtain ⟨ks, ds⟩ := kd
      rw [ek] at e1
      obtain ⟨k, e2, e3⟩ := Option.map_eq_some_iff.mp e1
      obtain ⟨a, vs, rfl, h2, h3, h4⟩ := asK_of I hy ek
      obtain ⟨l1, l2⟩ := look_of (x := k) h4 h3
      have z : (valV (ks.zip vs) k).isSome = b := by
        cases q2 : look ks ds k with
        | none =>
          rw [l2 q2]
          simp only [q2] at e3
          exact e3
        | some d' =>
          obtain ⟨v, e5, _⟩ := l1 d' q2
          rw [e5]
          simp only [q2] at e3
          exact e3
      refine .inr (.inr ⟨a, _, rfl, .inl ⟨_, k, h2, key_of hx e2, rfl⟩, ?_⟩)
      rw [z]
      exact q
    | none =>
      rw [ek] at e1
      obtain ⟨ds, e2, e3⟩ := Option.bind_eq_some_iff.mp e1
      cases f : d.flat && ds.all D.flat with
      | false =>
        rw [f] at e3
        cases e3
      | true =>
        rw [f] at e3
        cases e3
        obtain ⟨f1, f2⟩ := Bool.and_eq_true_iff.mp f
        obtain ⟨a, vs, rfl, h2, h3⟩ := asL_of I hy e2
        refine .inl ⟨a, vs, rfl, .inl h2, flat_of hx f1, flats_of h3 f2, ?_⟩
        rw [inD_of hx f1 h3 f2]
        exact q
  cases e with
  | tup ds =>
    have e1 : (if d.flat && ds.all D.flat then some (inD d ds) else none) = some b := h
    cases f : d.flat && ds.all D.flat with
    | false =>
      rw [f] at e1
      cases e1
    | true =>
      rw [f] at e1
      cases e1
      obtain ⟨f1, f2⟩ := Bool.and_eq_true_iff.mp f
      obtain ⟨a, vs, rfl, h2, h3⟩ := hy
      refine .inl ⟨a, vs, rfl, .inr (sqT_sub I.sub h2), flat_of hx f1, flats_of h3 f2, ?_⟩
      rw [inD_of hx f1 h3 f2]
      exact q
  | str z =>
    cases d with
    | str a =>
      have e1 : some (inS a z) = some b := h
      cases e1
      exact .inr (.inl ⟨a, z, hx, hy, q⟩)
    | _ => cases h
  | lst ds => exact gen h
  | dic ks ds => exact gen h
  | ref k => exact gen h
  | fo c ns ds => exact gen h
  | exc c => exact gen h
  | non => exact gen h
  | bl b => exact gen h
  | int i => exact gen h
theorem rr_in : RR2 g W (rInU g.K false) fIn := by
  intro n w s σ H x y d e Q I hx hy h
  obtain ⟨z, e1, h1⟩ := Out.lft (o := (inO s.hs d e).map D.bl) h
  obtain ⟨b, e2, e3⟩ := Option.map_eq_some_iff.mp e1
  subst e3
  exact rr_inG (neg := false) I hx hy e2 (h1 _ w H I (Le.refl _ _) rfl)
theorem rr_nin : RR2 g W (rInU g.K true) fNin := by
  intro n w s σ H x y d e Q I hx hy h
  obtain ⟨z, e1, h1⟩ := Out.lft (o := (inO s.hs d e).map fun b => D.bl (!b)) h
  obtain ⟨b, e2, e3⟩ := Option.map_eq_some_iff.mp e1
  subst e3
  exact rr_inG (neg := true) I hx hy e2 (h1 _ w H I (Le.refl _ _) rfl)

/-! ### len, truth -/
def lenO (hs : HS) : D → Option Nat
  | .tup ds => some ds.length
  | .str z => if lenOk z.length then some z.length else none
  | d => match asK hs d with
    | some _ => none
    | none => (asL hs d).map List.length
/-- a value as a test -/
def truO (hs : HS) : D → Option Bool
  | .non => some false
  | .bl b => some b
  | .int i => some (i != 0)
  | .str z => if lenOk z.length then some ((z.length : Int) != 0) else none
  | .tup ds => some (!ds.isEmpty)
  | d => (asL hs d).map fun ds => !ds.isEmpty
end
end Mi

set_option linter.all false
set_option maxRecDepth 100000
set_option maxHeartbeats 4000000
/-! Mi: built-in functions and methods of texts, by values. -/
namespace Mi
open PySem PySem.Spec PyProof.Rows L2
section
variable {g : G} {W : WX} {X : Cx} {F : Hp} {io : List Addr}
/-! ### a function of one value -/
def f1 (f : HS → D → Option D) : List D → M D := fun ds s => match ds with
  | [d] => lft (f s.hs d) s
  | _ => none
def f2 (f : HS → D → D → Option D) : List D → M D := fun ds s => match ds with
  | [d, e] => lft (f s.hs d e) s
  | _ => none
theorem FVs.one {d : D} {vs : List V} (h : FVs g F io [d] vs) : ∃ v, vs = [v] ∧ FV g F io d v := by
  obtain ⟨v, r, rfl, h1, h2⟩ := h
  have e : r = [] := h2
  subst e
  exact ⟨v, rfl, h1⟩
theorem FVs.two {d e : D} {vs : List V} (h : FVs g F io [d, e] vs) : ∃ v u, vs = [v, u] ∧ FV g F io d v ∧ FV g F io e u := by
  obtain ⟨v, r, rfl, h1, h2⟩ := h
  obtain ⟨u, rfl, h3⟩ := h2.one
  exact ⟨v, u, rfl, h1, h3⟩
/-- what a rule has to do for one value -/
theorem rn_1 {r : List V → Hp → VK → Prop} {f : HS → D → Option D}
    (h : ∀ n w s σ H x d z Q, SR g n w s σ H → FV g w.F w.io d x → f s.hs d = some z → PostE g n w σ Q z s → r [x] H Q) : RN g W r (f1 f) := by
  intro n w s σ H xs ds Q I hx ho
  match ds, hx, ho with
  | [], _, ho => exact ho.elim
  | [d], hx, ho =>
    obtain ⟨x, rfl, hx1⟩ := hx.one
    obtain ⟨z, e, q⟩ := Out.lft (o := f s.hs d) ho
    exact h n w s σ H x d z Q I hx1 e q
  | _ :: _ :: _, _, ho => exact ho.elim
theorem rn_2 {r : List V → Hp → VK → Prop} {f : HS → D → D → Option D}
    (h : ∀ n w s σ H x y d e z Q, SR g n w s σ H → FV g w.F w.io d x → FV g w.F w.io e y → f s.hs d e = some z → PostE g n w σ Q z s → r [x, y] H Q) : RN g W r (f2 f) := by
  intro n w s σ H xs ds Q I hx ho
  match ds, hx, ho with
  | [], _, ho => exact ho.elim
  | [d], _, ho => exact ho.elim
  | [d, e], hx, ho =>
    obtain ⟨x, y, rfl, hx, hy⟩ := hx.two
    obtain ⟨z, e', q⟩ := Out.lft (o := f s.hs d e) ho
    exact h n w s σ H x y d e z Q I hx hy e' q
  | _ :: _ :: _ :: _, _, ho => exact ho.elim

/-! ### len -/
def oLen (hs : HS) (d : D) : Option D := match d with
  | .tup ds => some (.int ds.length)
  | .str z => if lenOk z.length then some (.int z.length) else none
  | d => match asK hs d with
    | some kd => if lenOk kd.2.length then some (.int kd.1.length) else none
    | none => (asL hs d).map fun ds => .int ds.length
def rLenU (K : PySem.W.Frag) : List V → Hp → VK → Prop := fun xs H Q => (∃ p ys, xs = [.ref p] ∧ (SqL K H p ys ∨ SqT K H p ys) ∧ Q (.int ys.length) H) ∨ (∃ z, xs = [.str z] ∧ z.length ≤ sizeLine ∧ Q (.int z.length) H) ∨
  ∃ a kvs, xs = [V.ref a] ∧ Rd H a (.dK kvs) ∧ Q (.int kvs.length) H
theorem call_lenR : CallR X (.builtin "len") (fun xs H Q => ∃ a kvs, xs = [V.ref a] ∧ Rd H a (.dK kvs) ∧ Q (.int kvs.length) H) := by
  intro pins s σ H xs us Q I r h
  obtain ⟨a, kvs, rfl, ha, q⟩ := h
  obtain ⟨u, rfl, ru⟩ := vals1 r
  cases ru
  exact d_len I ha fun t s' I' => ⟨.int kvs.length, H, I', ⟨t, rfl⟩, q⟩
theorem call_lenU : CallR X (.builtin "len") (rLenU X.K) := call_len_seq.or (call_len_str.or call_lenR)
theorem zip_len {ks : List Key} {vs : List V} {n : Nat} (h1 : ks.length = n) (h2 : n = vs.length) : (ks.zip vs).length = ks.length := by
  rw [List.length_zip]
  omega
theorem rn_len : RN g W (rLenU g.K) (f1 oLen) := rn_1 fun n w s σ H x d z Q I hx e q => by
  have gen : (match asK s.hs d with
    | some kd => if lenOk kd.2.length then some (D.int kd.1.length) else none
    | none => (asL s.hs d).map fun ds => D.int ds.length) = some z → rLenU g.K [x] H Q := fun e => by
    cases ek : asK s.hs d with
    | some kd =>
      obtain ⟨ks, ds⟩ := kd
      rw [ek] at e
      have e : (if lenOk ds.length then some (D.int ks.length) else none) = some z := e
      cases q2 : lenOk ds.length with
      | false =>
        rw [q2] at e
        cases e
      | true =>
        rw [q2] at e
        cases e
        obtain ⟨a, vs, rfl, h2, h3, h4⟩ := asK_of I hx ek
        refine .inr (.inr ⟨a, _, rfl, h2, ?_⟩)
        rw [zip_len h3 h4.len]
        exact q _ w H I (Le.refl _ _) rfl
    | none =>
      rw [ek] at e
      obtain ⟨ds, e2, e3⟩ := Option.map_eq_some_iff.mp e
      subst e3
      obtain ⟨a, vs, rfl, h2, h3⟩ := asL_of I hx e2
      refine .inl ⟨a, vs, rfl, .inl h2, ?_⟩
      rw [← h3.len]
      exact q _ w H I (Le.refl _ _) rfl
  cases d with
  | tup ds =>
    cases (show some (D.int ds.length) = some z from e)
    obtain ⟨a, vs, rfl, h1, h2⟩ := hx
    refine .inl ⟨a, vs, rfl, .inr (sqT_sub I.sub h1), ?_⟩
    rw [← h2.len]
    exact q _ w H I (Le.refl _ _) rfl
  | str zs =>
    have e : (if lenOk zs.length then some (D.int zs.length) else none) = some z := e
    cases q2 : lenOk zs.length with
    | false =>
      rw [q2] at e
      cases e
    | true =>
      rw [q2] at e
      cases e
      have hx' : x = .str zs := hx
      subst hx'
      exact .inr (.inl ⟨zs, rfl, lenOk_of q2, q _ w H I (Le.refl _ _) rfl⟩)
  | lst ds => exact gen e
  | dic ks ds => exact gen e
  | ref k => exact gen e
  | fo c ns ds => exact gen e
  | exc c => exact gen e
  | non => exact gen e
  | bl b => exact gen e
  | int i => exact gen e

/-! ### abs, max, min, int, str, ord -/
def oAbs (_ : HS) : D → Option D
  | .int i => some (.int (if i < 0 then -i else i))
  | _ => none
theorem rn_abs : RN g W (fun xs H Q => ∃ i, xs = [.int i] ∧ Q (.int (if i < 0 then -i else i)) H) (f1 oAbs) := rn_1 fun n w s σ H x d z Q I hx e q => by
  cases d <;> simp [oAbs] at e
  subst e
  have hx' : x = _ := hx
  subst hx'
  exact ⟨_, rfl, q _ w H I (Le.refl _ _) rfl⟩
def oMax2 (_ : HS) : D → D → Option D
  | .int i, .int j => some (.int (if j > i then j else i))
  | _, _ => none
def oMin2 (_ : HS) : D → D → Option D
  | .int i, .int j => some (.int (if j < i then j else i))
  | _, _ => none
theorem rn_max2 : RN g W (fun xs H Q => ∃ i j, xs = [.int i, .int j] ∧ Q (.int (if j > i then j else i)) H) (f2 oMax2) := rn_2 fun n w s σ H x y d e z Q I hx hy e' q => by
  unfold oMax2 at e'
  split at e'
  · cases e'
    have hx' : x = _ := hx
    have hy' : y = _ := hy
    subst hx' hy'
    exact ⟨_, _, rfl, q _ w H I (Le.refl _ _) rfl⟩
  · cases e'
theorem rn_min2 : RN g W (fun xs H Q => ∃ i j, xs = [.int i, .int j] ∧ Q (.int (if j < i then j else i)) H) (f2 oMin2) := rn_2 fun n w s σ H x y d e z Q I hx hy e' q => by
  unfold oMin2 at e'
  split at e'
  · cases e'
    have hx' : x = _ := hx
    have hy' : y = _ := hy
    subst hx' hy'
    exact ⟨_, _, rfl, q _ w H I (Le.refl _ _) rfl⟩
  · cases e'
def oInt (_ : HS) : D → Option D
  | .int i => some (.int i)
  | .bl k => some (.int (if k then 1 else 0))
  | .str a => if decide (a.length ≤ 640) then (PySem.intText? a).map .int else none
  | _ => none
def rIntU : List V → Hp → VK → Prop := fun xs H Q => ((∃ i, xs = [.int i] ∧ Q (.int i) H) ∨ ∃ k, xs = [.bl k] ∧ Q (.int (if k then 1 else 0)) H) ∨ ∃ a n, xs = [.str a] ∧ PySem.intText? a = some n ∧ a.length ≤ 640 ∧ Q (.int n) H
theorem call_intU : CallR X (.type "int") rIntU := call_int1.or call_int_str
theorem rn_int : RN g W rIntU (f1 oInt) := rn_1 fun n w s σ H x d z Q I hx e q => by
  cases d with
  | int i =>
    cases (show some (D.int i) = some z from e)
    have hx' : x = .int i := hx
    subst hx'
    exact .inl (.inl ⟨i, rfl, q _ w H I (Le.refl _ _) rfl⟩)
  | bl b =>
    cases (show some (D.int (if b then 1 else 0)) = some z from e)
    have hx' : x = .bl b := hx
    subst hx'
    exact .inl (.inr ⟨b, rfl, q _ w H I (Le.refl _ _) rfl⟩)
  | str a =>
    have e : (if decide (a.length ≤ 640) then (PySem.intText? a).map D.int else none) = some z := e
    cases q2 : decide (a.length ≤ 640) with
    | false =>
      rw [q2] at e
      cases e
    | true =>
      rw [q2] at e
      obtain ⟨m, e1, e2⟩ := Option.map_eq_some_iff.mp e
      subst e2
      have hx' : x = .str a := hx
      subst hx'
      exact .inr ⟨a, m, rfl, e1, of_decide_eq_true q2, q _ w H I (Le.refl _ _) rfl⟩
  | _ => cases e
def oStr (_ : HS) : D → Option D
  | .int i => if decide (i.natAbs.log2 < 1920) then some (.str (toString i)) else none
  | .str a => some (.str a)
  | _ => none
def rStrU : List V → Hp → VK → Prop := fun xs H Q => (∃ i, xs = [.int i] ∧ i.natAbs.log2 < 1920 ∧ Q (.str (toString i)) H) ∨ ∃ a, xs = [.str a] ∧ Q (.str a) H
theorem call_strU : CallR X (.type "str") rStrU := call_str_int.or SkE.call_str_str
theorem rn_str : RN g W rStrU (f1 oStr) := rn_1 fun n w s σ H x d z Q I hx e q => by
  cases d with
  | int i =>
    have e : (if decide (i.natAbs.log2 < 1920) then some (D.str (toString i)) else none) = some z := e
    cases q2 : decide (i.natAbs.log2 < 1920) with
    | false =>
      rw [q2] at e
      cases e
    | true =>
      rw [q2] at e
      cases e
      have hx' : x = .int i := hx
      subst hx'
      exact .inl ⟨i, rfl, of_decide_eq_true q2, q _ w H I (Le.refl _ _) rfl⟩
  | str a =>
    cases (show some (D.str a) = some z from e)
    have hx' : x = .str a := hx
    subst hx'
    exact .inr ⟨a, rfl, q _ w H I (Le.refl _ _) rfl⟩
  | _ => cases e
def oOrd (_ : HS) : D → Option D
  | .str x => if decide (x.length = 1) then some (.int (x.cps.getD 0 0 : Nat)) else none
  | _ => none
theorem rn_ord : RN g W (fun xs H Q => ∃ x, xs = [.str x] ∧ x.length = 1 ∧ Q (.int (x.cps.getD 0 0 : Nat)) H) (f1 oOrd) := rn_1 fun n w s σ H x d z Q I hx e q => by
  cases d with
  | str a =>
    have e : (if decide (a.length = 1) then some (D.int (a.cps.getD 0 0 : Nat)) else none) = some z := e
    cases q2 : decide (a.length = 1) with
    | false =>
      rw [q2] at e
      cases e
    | true =>
      rw [q2] at e
      cases e
      have hx' : x = .str a := hx
      subst hx'
      exact ⟨a, rfl, of_decide_eq_true q2, q _ w H I (Le.refl _ _) rfl⟩
  | _ => cases e

/-! ### tuple(..), frozen -/
def oTuple (hs : HS) (d : D) : Option D := match d with
  | .tup ds => some (.tup ds)
  | d => (asL hs d).map .tup
def rTupU (K : PySem.W.Frag) : List V → Hp → VK → Prop := fun xs H Q => ∃ p ys, xs = [.ref p] ∧ ((SqL K H p ys ∧ ∀ l, H l = none → Q (.ref l) (upd H l (.tup ys))) ∨ (SqT K H p ys ∧ Q (.ref p) H))
theorem rn_tuple : RN g W (rTupU g.K) (f1 oTuple) := rn_1 fun n w s σ H x d z Q I hx e q => by
  have gen : (asL s.hs d).map D.tup = some z → rTupU g.K [x] H Q := fun e => by
    obtain ⟨ds, e2, e3⟩ := Option.map_eq_some_iff.mp e
    subst e3
    obtain ⟨a, vs, rfl, h2, h3⟩ := asL_of I hx e2
    refine ⟨a, vs, rfl, .inl ⟨h2, fun p hp => ?_⟩⟩
    have J := I.new (u := .tup vs) hp
    have le : Le w.F (upd w.F p (.tup vs)) w.io w.io := le_new (I.Fnone hp)
    exact q _ _ _ J le ⟨p, vs, rfl, SqT.of upd_same, FVs.mono le _ _ h3⟩
  cases d with
  | tup ds =>
    cases (show some (D.tup ds) = some z from e)
    obtain ⟨a, vs, rfl, h1, h2⟩ := hx
    exact ⟨a, vs, rfl, .inr ⟨sqT_sub I.sub h1, q _ w H I (Le.refl _ _) ⟨a, vs, rfl, h1, h2⟩⟩⟩
  | lst ds => exact gen e
  | dic ks ds => exact gen e
  | ref k => exact gen e
  | fo c ns ds => exact gen e
  | exc c => exact gen e
  | non => exact gen e
  | bl b => exact gen e
  | int i => exact gen e
  | str a => exact gen e

/-! ### isinstance -/
def tyC : Option Ob → Option String
  | some (.lst _) => some "list"
  | some (.dic _ _) => some "dict"
  | _ => none
def tyD : HS → D → Option String
  | _, .non => some "NoneType"
  | _, .bl _ => some "bool"
  | _, .int _ => some "int"
  | _, .str _ => some "str"
  | _, .tup _ => some "tuple"
  | _, .lst _ => some "list"
  | _, .dic _ _ => some "dict"
  | hs, .ref k => tyC hs[k]?
  | _, .fo _ _ _ => none
  | _, .exc _ => none
/-- the answer for two built-in types -/
def isT (t T : String) : Bool := t == T || (t == "bool" && T == "int")
def oIsi (T : String) (hs : HS) (d : D) : Option D := match tyD hs d with
  | some t => if ["int", "bool", "str", "tuple", "list", "dict"].contains T then some (.bl (isT t T)) else none
  | none => none
theorem isT_ok {t T : String} (ht : t ∈ ["NoneType", "bool", "int", "str", "tuple", "list", "dict"]) (hT : T ∈ ["int", "bool", "str", "tuple", "list", "dict"]) : kitB t T = some (isT t T) := by
  have h : (["NoneType", "bool", "int", "str", "tuple", "list", "dict"].all fun t => ["int", "bool", "str", "tuple", "list", "dict"].all fun T => decide (kitB t T = some (isT t T))) = true := by decide +kernel
  exact of_decide_eq_true (List.all_eq_true.mp (List.all_eq_true.mp h t ht) T hT)
theorem tyD_mem {hs : HS} {d : D} {t : String} (h : tyD hs d = some t) : t ∈ ["NoneType", "bool", "int", "str", "tuple", "list", "dict"] := by
  cases d with
  | ref k =>
    have h : tyC hs[k]? = some t := h
    unfold tyC at h
    split at h <;> first | (cases h; decide) | cases h
  | _ => first | (cases h; decide) | cases h
theorem tyD_of {n : En} {w : Wd} {s : S} {σ : L2.St} {H : Hp} {d : D} {x : V} {t : String} (I : SR g n w s σ H) (hx : FV g w.F w.io d x) (h : tyD s.hs d = some t) : TyX g.K H x (.type t) := by
  cases d with
  | non =>
    cases h
    have e : x = _ := hx
    rw [e]
    exact .base .non
  | bl b =>
    cases h
    have e : x = _ := hx
    rw [e]
    exact .base (.bl b)
  | int i =>
    cases h
    have e : x = _ := hx
    rw [e]
    exact .base (.int i)
  | str z =>
    cases h
    have e : x = _ := hx
    rw [e]
    exact .base (.str z)
  | tup ds =>
    cases h
    obtain ⟨a, vs, rfl, h1, _⟩ := hx
    rcases sqT_sub I.sub h1 with (h1 | ⟨o, h1⟩) | ⟨o, its, m, h1, h2, _⟩
    · exact .base (.tup h1)
    · exact .fTuple h1
    · exact .kTuple h1 h2
  | lst ds =>
    cases h
    obtain ⟨a, vs, rfl, h1, _⟩ := hx
    rcases sqL_sub I.sub h1 with (h1 | ⟨o, h1⟩) | ⟨o, its, m, h1, h2, _⟩
    · exact .base (.lst h1)
    · exact .base (.frz h1)
    · exact .kList h1 h2
  | dic ks ds =>
    cases h
    obtain ⟨a, vs, rfl, h1, _⟩ := hx
    rcases h1 with h1 | ⟨o, h1⟩
    · exact .base (.dK (I.sub _ _ h1))
    · exact .fDict (I.sub _ _ h1)
  | ref k =>
    have h : tyC s.hs[k]? = some t := h
    unfold tyC at h
    split at h
    · rename_i ds e
      cases h
      obtain ⟨a, e1, e2⟩ := hx
      obtain ⟨a', vs, h1, h2, h3⟩ := I.objs k _ e
      rw [e2] at h1
      cases h1
      rw [e1]
      exact .base (.lst h2)
    · rename_i ks ds e
      cases h
      obtain ⟨a, e1, e2⟩ := hx
      obtain ⟨a', vs, h1, h2, h3⟩ := I.objs k _ e
      rw [e2] at h1
      cases h1
      rw [e1]
      exact .base (.dK h2)
    · cases h
  | fo c ns ds => cases h
  | exc c => cases h
def eIsi (T : String) (m : M D) : M D := bnd m fun d s => lft (oIsi T s.hs d) s
theorem re_isi {ta : TE} {ma : M D} (T : String) (ha : RE g W ta ma) : RE g W (tCB (rIsi g.K) (tCons ta (tCons (tC (.ty T)) tNil))) (eIsi T ma) := by
  intro n w s σ H Q I h
  refine ha n w s σ H _ I (h.bnd.mono fun d s1 h1 v w1 H1 I1 l1 f1 => ?_)
  obtain ⟨z, e, q⟩ := Out.lft (o := oIsi T s1.hs d) h1
  unfold oIsi at e
  cases e1 : tyD s1.hs d with
  | none =>
    rw [e1] at e
    cases e
  | some t =>
    rw [e1] at e
    have e : (if ["int", "bool", "str", "tuple", "list", "dict"].contains T then some (D.bl (isT t T)) else none) = some z := e
    cases c : ["int", "bool", "str", "tuple", "list", "dict"].contains T with
    | false =>
      rw [c] at e
      cases e
    | true =>
      rw [c] at e
      cases e
      refine ⟨v, .ty T, .type t, .type T, isT t T, rfl, .ty T, tyD_of I1 f1 e1, kit_ty (isT_ok (tyD_mem e1) (by simpa using c)), q _ w1 H1 I1 l1 rfl⟩

/-! ### texts -/
def D.asS : D → Option Str
  | .str x => some x
  | _ => none
theorem asS_eq {d : D} {x : Str} (h : d.asS = some x) : d = .str x := by
  cases d <;> simp [D.asS] at h
  rw [h]
/-- a method of texts: its receiver, one argument -/
def eM1 (f : HS → Str → D → Option D) (a b : M D) : M D := bnd a fun d => bnd (lft d.asS) fun x => bnd b fun e s => lft (f s.hs x e) s
def RM1 (g : G) (r : V → List V → Hp → VK → Prop) (f : HS → Str → D → Option D) : Prop :=
  ∀ n w s σ H x y e z Q, SR g n w s σ H → FV g w.F w.io e y → f s.hs x e = some z → PostE g n w σ Q z s → r (.str x) [y] H Q
theorem re_m1 {r : V → List V → Hp → VK → Prop} {f : HS → Str → D → Option D} {ta tb : TE} {ma mb : M D} (h : RM1 g r f) (ha : RE g W ta ma) (hb : RE g W tb mb) : RE g W (tM1 r ta tb) (eM1 f ma mb) := by
  intro n w s σ H Q I hq
  refine ha n w s σ H _ I (hq.bnd.mono fun d s1 h1 v w1 H1 I1 l1 f1 => ?_)
  obtain ⟨x, e, h2⟩ := h1.bnd.lft
  rw [asS_eq e] at f1
  have f1' : v = .str x := f1
  subst f1'
  refine ⟨⟨x, rfl⟩, ?_⟩
  refine hb n w1 s1 σ H1 _ I1 ((Out.le l1 h2.bnd).mono fun e s2 h2 y w2 H2 I2 l2 f2 => ?_)
  obtain ⟨z, e3, q⟩ := Out.lft (o := f s2.hs x e) h2
  exact h n w2 s2 σ H2 x y e z Q I2 f2 e3 (q.le (l1.trans l2))
def oPart (_ : HS) (a : Str) : D → Option D
  | .str b => if !(b.length == 0) && lenOk a.length then some (.tup [.str (Txt.partition a b).1, .str (Txt.partition a b).2.1, .str (Txt.partition a b).2.2]) else none
  | _ => none
def oEnds (_ : HS) (a : Str) : D → Option D
  | .str b => some (.bl (Txt.endswith a b))
  | _ => none
def oStarts (_ : HS) (a : Str) : D → Option D
  | .str b => some (.bl (Txt.startswith a b))
  | _ => none
def oFind (_ : HS) (a : Str) : D → Option D
  | .str b => some (.int (Txt.find a b))
  | _ => none
def oCount (_ : HS) (a : Str) : D → Option D
  | .str b => some (.int (Txt.count a b))
  | _ => none
/-- split: frozen -/
def oSplit (_ : HS) (a : Str) : D → Option D
  | .str b => if !(b.length == 0) && lenOk (a.length + 2) then some (.lst ((Txt.split a b).map .str)) else none
  | _ => none
def strsOf : List D → Option (List Str)
  | [] => some []
  | .str x :: ds => (strsOf ds).map fun r => x :: r
  | _ :: _ => none
theorem strs_of : ∀ {ds : List D} {vs : List V} {ys : List Str}, FVs g F io ds vs → strsOf ds = some ys → vs = ys.map V.str
  | [], vs, ys, h, e => by
    cases e
    exact h
  | d :: ds, _, ys, h, e => by
    obtain ⟨v, r, rfl, h1, h2⟩ := h
    cases d with
    | str x =>
      obtain ⟨zs, e1, e2⟩ := Option.map_eq_some_iff.mp (show (strsOf ds).map (fun r => x :: r) = some ys from e)
      subst e2
      have h1' : v = .str x := h1
      rw [h1', strs_of h2 e1]
      rfl
    | _ => cases e
theorem fvs_strs : ∀ (ys : List Str), FVs g F io (ys.map D.str) (ys.map V.str)
  | [] => rfl
  | y :: ys => ⟨_, _, rfl, rfl, fvs_strs ys⟩
def joinOk (a : Str) (ys : List Str) : Bool := decide ((ys.map (·.length)).sum + ys.length * a.length ≤ 16777216)
def itemsOf (hs : HS) (d : D) : Option (List D) := match d with
  | .tup ds => some ds
  | d => asL hs d
def oJoin (hs : HS) (a : Str) (d : D) : Option D := (itemsOf hs d).bind fun ds => (strsOf ds).bind fun ys => if joinOk a ys then some (.str (Txt.join a ys)) else none
theorem items_of {n : En} {w : Wd} {s : S} {σ : L2.St} {H : Hp} {d : D} {v : V} {ds : List D} (I : SR g n w s σ H) (h : FV g w.F w.io d v) (e : itemsOf s.hs d = some ds) :
    ∃ a vs, v = .ref a ∧ (SqL g.K H a vs ∨ SqT g.K H a vs) ∧ FVs g w.F w.io ds vs := by
  have gen : asL s.hs d = some ds → ∃ a vs, v = .ref a ∧ (SqL g.K H a vs ∨ SqT g.K H a vs) ∧ FVs g w.F w.io ds vs := fun e => by
    obtain ⟨a, vs, e1, h1, h2⟩ := asL_of I h e
    exact ⟨a, vs, e1, .inl h1, h2⟩
  cases d with
  | tup ds' =>
    cases (show some ds' = some ds from e)
    obtain ⟨a, vs, e1, h1, h2⟩ := h
    exact ⟨a, vs, e1, .inr (sqT_sub I.sub h1), h2⟩
  | lst ds => exact gen e
  | dic ks ds => exact gen e
  | ref k => exact gen e
  | fo c ns ds => exact gen e
  | exc c => exact gen e
  | non => exact gen e
  | bl b => exact gen e
  | int i => exact gen e
  | str a => exact gen e
theorem rm_part : RM1 g (fun x xs H Q => ∃ a b, x = .str a ∧ xs = [.str b] ∧ (b.length == 0) = false ∧ a.length ≤ sizeLine ∧ ∀ p, H p = none → Q (.ref p) (upd H p (.tup [.str (Txt.partition a b).1, .str (Txt.partition a b).2.1, .str (Txt.partition a b).2.2]))) oPart := by
  intro n w s σ H a y e z Q I hy e' q
  cases e with
  | str b =>
    have hy' : y = .str b := hy
    subst hy'
    have e' : (if !(b.length == 0) && lenOk a.length then some (D.tup [.str (Txt.partition a b).1, .str (Txt.partition a b).2.1, .str (Txt.partition a b).2.2]) else none) = some z := e'
    cases c : !(b.length == 0) && lenOk a.length with
    | false =>
      rw [c] at e'
      cases e'
    | true =>
      rw [c] at e'
      cases e'
      obtain ⟨c1, c2⟩ := Bool.and_eq_true_iff.mp c
      refine ⟨a, b, rfl, rfl, by simpa using c1, lenOk_of c2, fun p hp => ?_⟩
      have J := I.new (u := .tup [.str (Txt.partition a b).1, .str (Txt.partition a b).2.1, .str (Txt.partition a b).2.2]) hp
      exact q _ _ _ J (le_new (I.Fnone hp)) ⟨p, _, rfl, SqT.of upd_same, ⟨_, _, rfl, rfl, _, _, rfl, rfl, _, _, rfl, rfl, rfl⟩⟩
  | _ => cases e'
theorem rm_ends : RM1 g (fun x xs H Q => ∃ a b, x = .str a ∧ xs = [.str b] ∧ Q (.bl (Txt.endswith a b)) H) oEnds := by
  intro n w s σ H a y e z Q I hy e' q
  cases e with
  | str b =>
    have hy' : y = .str b := hy
    subst hy'
    cases e'
    exact ⟨a, b, rfl, rfl, q _ w H I (Le.refl _ _) rfl⟩
  | _ => cases e'
theorem rm_starts : RM1 g (fun x xs H Q => ∃ a b, x = .str a ∧ xs = [.str b] ∧ Q (.bl (Txt.startswith a b)) H) oStarts := by
  intro n w s σ H a y e z Q I hy e' q
  cases e with
  | str b =>
    have hy' : y = .str b := hy
    subst hy'
    cases e'
    exact ⟨a, b, rfl, rfl, q _ w H I (Le.refl _ _) rfl⟩
  | _ => cases e'
theorem rm_find : RM1 g (fun x xs H Q => ∃ a b, x = .str a ∧ xs = [.str b] ∧ Q (.int (Txt.find a b)) H) oFind := by
  intro n w s σ H a y e z Q I hy e' q
  cases e with
  | str b =>
    have hy' : y = .str b := hy
    subst hy'
    cases e'
    exact ⟨a, b, rfl, rfl, q _ w H I (Le.refl _ _) rfl⟩
  | _ => cases e'
theorem rm_count : RM1 g (fun x xs H Q => ∃ a b, x = .str a ∧ xs = [.str b] ∧ Q (.int (Txt.count a b)) H) oCount := by
  intro n w s σ H a y e z Q I hy e' q
  cases e with
  | str b =>
    have hy' : y = .str b := hy
    subst hy'
    cases e'
    exact ⟨a, b, rfl, rfl, q _ w H I (Le.refl _ _) rfl⟩
  | _ => cases e'
theorem rm_split : RM1 g (fun x xs H Q => ∃ a b, x = .str a ∧ xs = [.str b] ∧ (b.length == 0) = false ∧ a.length + 2 ≤ sizeLine ∧ rNewStrs (Txt.split a b) H Q) oSplit := by
  intro n w s σ H a y e z Q I hy e' q
  cases e with
  | str b =>
    have hy' : y = .str b := hy
    subst hy'
    have e' : (if !(b.length == 0) && lenOk (a.length + 2) then some (D.lst ((Txt.split a b).map .str)) else none) = some z := e'
    cases c : !(b.length == 0) && lenOk (a.length + 2) with
    | false =>
      rw [c] at e'
      cases e'
    | true =>
      rw [c] at e'
      cases e'
      obtain ⟨c1, c2⟩ := Bool.and_eq_true_iff.mp c
      refine ⟨a, b, rfl, rfl, by simpa using c1, lenOk_of c2, fun p hp => ?_⟩
      have J := I.new (u := .lst ((Txt.split a b).map V.str)) hp
      exact q _ _ _ J (le_new (I.Fnone hp)) ⟨p, _, rfl, SqL.of upd_same, fvs_strs _⟩
  | _ => cases e'
theorem rm_join : RM1 g (fun x xs H Q => ∃ a p, ∃ ys : List Str, x = .str a ∧ xs = [.ref p] ∧ (SqL g.K H p (ys.map V.str) ∨ SqT g.K H p (ys.map V.str)) ∧ (ys.map (·.length)).sum + ys.length * a.length ≤ 16777216 ∧ Q (.str (Txt.join a ys)) H) oJoin := by
  intro n w s σ H a y e z Q I hy e' q
  obtain ⟨ds, e1, e2⟩ := Option.bind_eq_some_iff.mp e'
  obtain ⟨ys, e3, e4⟩ := Option.bind_eq_some_iff.mp e2
  cases c : joinOk a ys with
  | false =>
    rw [c] at e4
    cases e4
  | true =>
    rw [c] at e4
    cases e4
    obtain ⟨p, vs, rfl, h1, h2⟩ := items_of I hy e1
    have ev := strs_of h2 e3
    subst ev
    exact ⟨a, p, ys, rfl, rfl, h1, of_decide_eq_true c, q _ w H I (Le.refl _ _) rfl⟩
end
end Mi

set_option linter.all false
set_option maxRecDepth 100000
set_option maxHeartbeats 4000000
/-! Mi: cells: laid, written, frozen, dropped. -/
namespace Mi
open PySem PySem.Spec PyProof.Rows L2
section
variable {g : G} {n : En} {w : Wd} {s : S} {σ : L2.St} {H : Hp} {p : Addr}
/-- no list or dict of its own within -/
def Ob.plain : Ob → Prop
  | .ins _ _ ls => ∀ l ∈ ls, ¬ OwnL l
  | _ => True
theorem live_app {sl : SL} {hs : HS} {o : Ob} (ho : o.plain) {q : Loc} (h : Live sl (hs ++ [o]) q) : Live sl hs q ∨ q = .cell hs.length := by
  cases q with
  | slot i => exact .inl h
  | cell k =>
    obtain ⟨u, e, d⟩ := h
    by_cases hk : k < hs.length
    · rw [List.getElem?_append_left hk] at e
      exact .inl ⟨u, e, d⟩
    · have hk2 : k < (hs ++ [o]).length := (List.getElem?_eq_some_iff.mp e).1
      rw [List.length_append, List.length_singleton] at hk2
      have : k = hs.length := by omega
      subst this
      exact .inr rfl
  | fld k j =>
    obtain ⟨c, ns, ls, l, e, e2, d⟩ := h
    by_cases hk : k < hs.length
    · rw [List.getElem?_append_left hk] at e
      exact .inl ⟨c, ns, ls, l, e, e2, d⟩
    · have hk2 : k < (hs ++ [o]).length := (List.getElem?_eq_some_iff.mp e).1
      rw [List.length_append, List.length_singleton] at hk2
      have : k = hs.length := by omega
      subst this
      rw [List.getElem?_append_right (Nat.le_refl _), Nat.sub_self] at e
      have e' : o = .ins c ns ls := by simpa using e
      subst e'
      exact (ho l (List.mem_of_getElem? e2) d).elim
/-- a fresh object becomes a cell -/
theorem SR.cell (I : SR g n w s σ H) {u : HO} {o : Ob} (f : Frh n w s H p u) (hp : o.plain) (ho : OR g { w with io := w.io ++ [p] } H s.hs.length o) :
    SR g n { w with io := w.io ++ [p] } { s with hs := s.hs ++ [o] } σ H ∧ Le w.F w.F w.io (w.io ++ [p]) := by
  have le : Le w.F w.F w.io (w.io ++ [p]) := ⟨fun _ _ _ h => h, fun _ _ _ _ h => h, fun k a e => by
    rw [List.getElem?_append_left (List.getElem?_eq_some_iff.mp e).1]
    exact e⟩
  have adN : ({ w with io := w.io ++ [p] } : Wd).ad (.cell s.hs.length) = p := by
    show (w.io ++ [p]).getD s.hs.length 0 = p
    rw [← I.len]
    apply getD_of
    rw [List.getElem?_append_right (Nat.le_refl _), Nat.sub_self]
    rfl
  have adO : ∀ q, Live s.sl s.hs q → ({ w with io := w.io ++ [p] } : Wd).ad q = w.ad q := fun q hq => by
    cases q with
    | slot i => rfl
    | fld k j => rfl
    | cell k =>
      obtain ⟨u', e, _⟩ := hq
      show (w.io ++ [p]).getD k 0 = w.io.getD k 0
      have hk : k < w.io.length := by rw [I.len]; exact (List.getElem?_eq_some_iff.mp e).1
      rw [List.getD_eq_getElem?_getD, List.getElem?_append_left hk, List.getD_eq_getElem?_getD]
  refine ⟨⟨I.sub, fun i l e => ?_, fun k u' e => ?_, ?_, fun q r hq hr e => ?_, fun q hq => ?_, I.keep, fun q hq => ?_, I.frz, I.grow.trans le, I.sle⟩, le⟩
  · obtain ⟨x, e1, e2⟩ := I.slots i l e
    exact ⟨x, e1, LV.mono le l (fun _ o q => q) e2⟩
  · by_cases hk : k < s.hs.length
    · have e' : s.hs[k]? = some u' := by
        have e2 : (s.hs ++ [o])[k]? = some u' := e
        rw [List.getElem?_append_left hk] at e2
        exact e2
      exact OR.mono (w' := { w with io := w.io ++ [p] }) le u' (fun _ a v _ q => q) (fun c ns ls j l _ _ _ => ⟨rfl, fun v q => q⟩) (I.objs k u' e')
    · have hk2 : k < (s.hs ++ [o]).length := (List.getElem?_eq_some_iff.mp e).1
      rw [List.length_append, List.length_singleton] at hk2
      have : k = s.hs.length := by omega
      subst this
      have e2 : (s.hs ++ [o])[s.hs.length]? = some u' := e
      rw [List.getElem?_append_right (Nat.le_refl _), Nat.sub_self] at e2
      have e' : o = u' := by simpa using e2
      subst e'
      exact ho
  · show (w.io ++ [p]).length = (s.hs ++ [o]).length
    rw [List.length_append, List.length_append, I.len]
    rfl
  · rcases live_app hp hq with hq' | rfl
    · rcases live_app hp hr with hr' | rfl
      · rw [adO q hq', adO r hr'] at e
        exact I.inj q r hq' hr' e
      · rw [adO q hq', adN] at e
        exact (f.ne q hq' e).elim
    · rcases live_app hp hr with hr' | rfl
      · rw [adO r hr', adN] at e
        exact (f.ne r hr' e.symm).elim
      · rfl
  · rcases live_app hp hq with hq' | rfl
    · rw [adO q hq']
      exact I.nof q hq'
    · rw [adN]
      exact f.F
  · rcases live_app hp hq with hq' | rfl
    · rw [adO q hq']
      exact I.own q hq'
    · rw [adN]
      exact f.en
theorem live_set {sl : SL} {hs : HS} {k : Nat} {o : Ob} (ho : o.plain) (hd : ∃ o', hs[k]? = some o' ∧ o' ≠ .dead) {q : Loc} (h : Live sl (hs.set k o) q) : Live sl hs q := by
  obtain ⟨o', e0, d0⟩ := hd
  have hk := (List.getElem?_eq_some_iff.mp e0).1
  cases q with
  | slot i => exact h
  | cell j =>
    obtain ⟨u, e, d⟩ := h
    by_cases hj : j = k
    · subst hj
      exact ⟨o', e0, d0⟩
    · rw [List.getElem?_set_ne (Ne.symm hj)] at e
      exact ⟨u, e, d⟩
  | fld j i =>
    obtain ⟨c, ns, ls, l, e, e2, d⟩ := h
    by_cases hj : j = k
    · subst hj
      rw [List.getElem?_set_self hk] at e
      have e' : o = .ins c ns ls := by simpa using e
      subst e'
      exact (ho l (List.mem_of_getElem? e2) d).elim
    · rw [List.getElem?_set_ne (Ne.symm hj)] at e
      exact ⟨c, ns, ls, l, e, e2, d⟩
/-- a cell is written -/
theorem SR.wr (I : SR g n w s σ H) {k : Nat} {a : Addr} {o o' : Ob} {u : HO} (e0 : s.hs[k]? = some o') (d0 : o' ≠ .dead) (ea : w.io[k]? = some a) (hp : o.plain) (ho : OR g w (upd H a u) k o) :
    SR g n w { s with hs := s.hs.set k o } σ (upd H a u) := by
  have hl : Live s.sl s.hs (.cell k) := ⟨o', e0, d0⟩
  have ad : w.ad (.cell k) = a := getD_of ea
  have aF : w.F a = none := by rw [← ad]; exact I.nof _ hl
  have ne : ∀ q, Live s.sl s.hs q → q ≠ .cell k → w.ad q ≠ a := fun q hq hn e => hn (I.inj q _ hq hl (e.trans ad.symm))
  have hk := (List.getElem?_eq_some_iff.mp e0).1
  refine ⟨fun b v e => ?_, fun i l e => ?_, fun j v e => ?_, ?_, fun q r hq hr e => I.inj q r (live_set hp ⟨o', e0, d0⟩ hq) (live_set hp ⟨o', e0, d0⟩ hr) e, fun q hq => I.nof q (live_set hp ⟨o', e0, d0⟩ hq), fun b v e nw => ?_, fun q hq => I.own q (live_set hp ⟨o', e0, d0⟩ hq), I.frz, I.grow, I.sle⟩
  · rw [upd_ne (ne_of_none e aF)]
    exact I.sub b v e
  · obtain ⟨x, e1, e2⟩ := I.slots i l e
    refine ⟨x, e1, LV.mono (Le.refl _ _) l (fun ow v q => ?_) e2⟩
    have z1 := ne (.slot i) ⟨l, e, ow⟩ (fun z => by cases z)
    have z2 : w.sa i ≠ a := z1
    rw [upd_ne z2]
    exact q
  · by_cases hj : j = k
    · subst hj
      have e2 : (s.hs.set j o)[j]? = some v := e
      rw [List.getElem?_set_self hk] at e2
      have e' : o = v := by simpa using e2
      subst e'
      exact ho
    · have e2 : (s.hs.set k o)[j]? = some v := e
      rw [List.getElem?_set_ne (Ne.symm hj)] at e2
      refine OR.mono (w' := w) (Le.refl _ _) v (fun hd b z eb q => ?_) (fun c ns ls i l ev el ow => ⟨rfl, fun z q => ?_⟩) (I.objs j v e2)
      · have := ne (.cell j) ⟨v, e2, hd⟩ (fun z => hj (by cases z; rfl))
        have eb' : w.ad (.cell j) = b := getD_of eb
        rw [eb'] at this
        rw [upd_ne this]
        exact q
      · subst ev
        have := ne (.fld j i) ⟨c, ns, ls, l, e2, el, ow⟩ (fun z => by cases z)
        have this' : w.fa j i ≠ a := this
        rw [upd_ne this']
        exact q
  · show w.io.length = (s.hs.set k o).length
    rw [List.length_set]
    exact I.len
  · have hb : b ≠ a := by
      intro z
      subst z
      rcases I.own _ hl with h | h
      · rw [ad] at h
        exact nw h
      · rw [ad] at h
        rw [h] at e
        cases e
    rw [upd_ne hb]
    exact I.keep b v e nw
/-- a cell's object is frozen -/
theorem SR.fz (I : SR g n w s σ H) {k : Nat} {a : Addr} {o' : Ob} {u : HO} (e0 : s.hs[k]? = some o') (d0 : o' ≠ .dead) (ea : w.io[k]? = some a) (hu : H a = some u) :
    SR g n { w with F := upd w.F a u } { s with hs := s.hs.set k .dead } σ H ∧ Le w.F (upd w.F a u) w.io w.io := by
  have hl : Live s.sl s.hs (.cell k) := ⟨o', e0, d0⟩
  have ad : w.ad (.cell k) = a := getD_of ea
  have aF : w.F a = none := by rw [← ad]; exact I.nof _ hl
  have le : Le w.F (upd w.F a u) w.io w.io := le_new aF
  have hk := (List.getElem?_eq_some_iff.mp e0).1
  have up : ∀ q, Live s.sl (s.hs.set k .dead) q → Live s.sl s.hs q := fun q hq => live_set (o := .dead) trivial ⟨o', e0, d0⟩ hq
  have nk : ∀ q, Live s.sl (s.hs.set k .dead) q → q ≠ .cell k := fun q hq z => by
    subst z
    obtain ⟨v, e, d⟩ := hq
    rw [List.getElem?_set_self hk] at e
    have e' : Ob.dead = v := by simpa using e
    exact d e'.symm
  refine ⟨⟨fun b v e => ?_, fun i l e => ?_, fun j v e => ?_, ?_, fun q r hq hr e => I.inj q r (up q hq) (up r hr) e, fun q hq => ?_, I.keep, fun q hq => I.own q (up q hq), fun b v e => ?_, I.grow.trans le, I.sle⟩, le⟩
  · have e : upd w.F a u b = some v := e
    by_cases hb : b = a
    · subst hb
      rw [upd_same] at e
      cases e
      exact hu
    · rw [upd_ne hb] at e
      exact I.sub b v e
  · obtain ⟨x, e1, e2⟩ := I.slots i l e
    exact ⟨x, e1, LV.mono le l (fun _ v q => q) e2⟩
  · by_cases hj : j = k
    · subst hj
      have e2 : (s.hs.set j .dead)[j]? = some v := e
      rw [List.getElem?_set_self hk] at e2
      have e' : Ob.dead = v := by simpa using e2
      subst e'
      trivial
    · have e2 : (s.hs.set k .dead)[j]? = some v := e
      rw [List.getElem?_set_ne (Ne.symm hj)] at e2
      exact OR.mono (w' := { w with F := upd w.F a u }) le v (fun _ b z _ q => q) (fun c ns ls i l _ _ _ => ⟨rfl, fun z q => q⟩) (I.objs j v e2)
  · show w.io.length = (s.hs.set k .dead).length
    rw [List.length_set]
    exact I.len
  · show upd w.F a u (w.ad q) = none
    rw [upd_ne (fun z => nk q hq (I.inj q _ (up q hq) hl (z.trans ad.symm)))]
    exact I.nof q (up q hq)
  · by_cases hb : b = a
    · subst hb
      rcases I.own _ hl with h | h
      · rw [ad] at h
        exact .inr (.inl h)
      · rw [ad] at h
        exact .inr (.inr h)
    · have e' : w.F b = some v := by
        have e2 : upd w.F a u b = some v := e
        rw [upd_ne hb] at e2
        exact e2
      exact I.frz b v e'

/-! ### values that know of no later cell -/
mutual
def D.nr (m : Nat) : D → Bool
  | .tup ds => nrs m ds
  | .lst ds => nrs m ds
  | .dic _ ds => nrs m ds
  | .fo _ _ ds => nrs m ds
  | .ref n => decide (n < m)
  | .non => true
  | .bl _ => true
  | .int _ => true
  | .str _ => true
  | .exc _ => true
def nrs (m : Nat) : List D → Bool
  | [] => true
  | d :: ds => d.nr m && nrs m ds
end
mutual
theorem nr_of {F : Hp} {io : List Addr} : ∀ (d : D) (v : V), FV g F io d v → d.nr io.length = true
  | .non, _, _ => rfl
  | .bl _, _, _ => rfl
  | .int _, _, _ => rfl
  | .str _, _, _ => rfl
  | .tup ds, _, h => by
    obtain ⟨a, vs, _, _, h2⟩ := h
    exact nrs_of ds vs h2
  | .lst ds, _, h => by
    obtain ⟨a, vs, _, _, h2⟩ := h
    exact nrs_of ds vs h2
  | .dic _ ds, _, h => by
    obtain ⟨a, vs, _, _, _, h2⟩ := h
    exact nrs_of ds vs h2
  | .fo _ _ ds, _, h => by
    obtain ⟨a, dx, vs, _, _, _, h2⟩ := h
    exact nrs_of ds vs h2
  | .ref k, _, h => by
    obtain ⟨a, _, e⟩ := h
    exact decide_eq_true (List.getElem?_eq_some_iff.mp e).1
  | .exc _, _, _ => rfl
theorem nrs_of {F : Hp} {io : List Addr} : ∀ (ds : List D) (vs : List V), FVs g F io ds vs → nrs io.length ds = true
  | [], _, _ => rfl
  | d :: ds, _, h => by
    obtain ⟨v, r, _, h1, h2⟩ := h
    show (d.nr io.length && nrs io.length ds) = true
    rw [nr_of d v h1, nrs_of ds r h2]
    rfl
end
mutual
theorem FV.down {F : Hp} {io io' : List Addr} {m : Nat} (he : ∀ k, k < m → io'[k]? = io[k]?) : ∀ (d : D) (v : V), d.nr m = true → FV g F io' d v → FV g F io d v
  | .non, _, _, h => h
  | .bl _, _, _, h => h
  | .int _, _, _, h => h
  | .str _, _, _, h => h
  | .tup ds, _, k, h => by
    obtain ⟨a, vs, e, h1, h2⟩ := h
    exact ⟨a, vs, e, h1, FVs.down he ds vs k h2⟩
  | .lst ds, _, k, h => by
    obtain ⟨a, vs, e, h1, h2⟩ := h
    exact ⟨a, vs, e, h1, FVs.down he ds vs k h2⟩
  | .dic _ ds, _, k, h => by
    obtain ⟨a, vs, e, h1, h3, h2⟩ := h
    exact ⟨a, vs, e, h1, h3, FVs.down he ds vs k h2⟩
  | .fo _ _ ds, _, k, h => by
    obtain ⟨a, dx, vs, e, h1, h3, h2⟩ := h
    exact ⟨a, dx, vs, e, h1, h3, FVs.down he ds vs k h2⟩
  | .ref n, _, k, h => by
    obtain ⟨a, e, e2⟩ := h
    have k' : decide (n < m) = true := k
    exact ⟨a, e, by rw [← he n (of_decide_eq_true k')]; exact e2⟩
  | .exc _, _, _, h => h
theorem FVs.down {F : Hp} {io io' : List Addr} {m : Nat} (he : ∀ k, k < m → io'[k]? = io[k]?) : ∀ (ds : List D) (vs : List V), nrs m ds = true → FVs g F io' ds vs → FVs g F io ds vs
  | [], _, _, h => h
  | d :: ds, _, k, h => by
    obtain ⟨v, r, e, h1, h2⟩ := h
    have k' : (d.nr m && nrs m ds) = true := k
    obtain ⟨k1, k2⟩ := Bool.and_eq_true_iff.mp k'
    exact ⟨v, r, e, FV.down he d v k1 h1, FVs.down he ds r k2 h2⟩
end
/-- contents that know of no later cell -/
def L.nr (m : Nat) : L → Bool
  | .v d => d.nr m
  | .ol ds => nrs m ds
  | .od _ ds => nrs m ds
theorem LV.nrOf {F : Hp} {io : List Addr} {ad : Addr} {x : V} : ∀ (l : L), LV g F io H ad l x → l.nr io.length = true
  | .v d, h => nr_of d x h
  | .ol ds, h => by
    obtain ⟨_, vs, _, h2⟩ := h
    exact nrs_of ds vs h2
  | .od _ ds, h => by
    obtain ⟨_, vs, _, _, h2⟩ := h
    exact nrs_of ds vs h2
theorem LV.down {F : Hp} {io io' : List Addr} {m : Nat} (he : ∀ k, k < m → io'[k]? = io[k]?) {ad : Addr} {x : V} : ∀ (l : L), l.nr m = true → LV g F io' H ad l x → LV g F io H ad l x
  | .v d, k, h => FV.down he d x k h
  | .ol ds, k, h => by
    obtain ⟨e, vs, h1, h2⟩ := h
    exact ⟨e, vs, h1, FVs.down he ds vs k h2⟩
  | .od _ ds, k, h => by
    obtain ⟨e, vs, h1, h3, h2⟩ := h
    exact ⟨e, vs, h1, h3, FVs.down he ds vs k h2⟩
theorem LVs.nrOf {k : Nat} : ∀ {ls : List L} {xs : List V} {j : Nat}, LVs g w H k j ls xs → ∀ l ∈ ls, l.nr w.io.length = true
  | [], _, _, _, _, e => by cases e
  | l :: ls, _, j, h, l', e => by
    obtain ⟨x, r, _, h1, h2⟩ := h
    rcases List.mem_cons.mp e with e | e
    · subst e
      exact LV.nrOf _ h1
    · exact LVs.nrOf h2 l' e
theorem LVs.down {w' : Wd} {k m : Nat} (hF : w.F = w'.F) (hfa : w.fa = w'.fa) (he : ∀ k, k < m → w'.io[k]? = w.io[k]?) : ∀ {ls : List L} {xs : List V} {j : Nat}, (∀ l ∈ ls, l.nr m = true) → LVs g w' H k j ls xs → LVs g w H k j ls xs
  | [], _, _, _, h => h
  | l :: ls, _, j, q, h => by
    obtain ⟨x, r, e, h1, h2⟩ := h
    refine ⟨x, r, e, ?_, LVs.down hF hfa he (fun l' e => q l' (List.mem_cons_of_mem _ e)) h2⟩
    rw [hF, hfa]
    exact LV.down he l (q l (List.mem_cons_self ..)) h1
/-- the later cells are dropped -/
theorem SR.trim (I : SR g n w s σ H) {w' : Wd} {hs' : HS} {H' : Hp} {sl : SL} {σ' : L2.St} (B : SR g n w' ⟨sl, hs'⟩ σ' H') (le : Le w.F w'.F w.io w'.io) (ht : hs'.take s.hs.length = s.hs) (hsl : ∀ (i : Nat) (l : L), sl[i]? = some (some l) → l.nr s.hs.length = true) :
    SR g n { w' with io := w.io } ⟨sl, s.hs⟩ σ' H' ∧ Le w.F w'.F w.io w.io := by
  have hle : s.hs.length ≤ hs'.length := by
    have h := congrArg List.length ht
    rw [List.length_take] at h
    omega
  have he : ∀ k, k < s.hs.length → w'.io[k]? = w.io[k]? := fun k hk => by
    have hk2 : k < w.io.length := by rw [I.len]; exact hk
    have e := List.getElem?_eq_getElem hk2
    rw [e]
    exact le.cells k _ e
  have hg : ∀ (k : Nat) (o : Ob), s.hs[k]? = some o → hs'[k]? = some o := fun k o e => by
    rw [← ht] at e
    have hk := (List.getElem?_eq_some_iff.mp e).1
    rw [List.length_take] at hk
    rw [List.getElem?_take_of_lt (by omega)] at e
    exact e
  have up : ∀ q, Live sl s.hs q → Live sl hs' q := fun q hq => by
    cases q with
    | slot i => exact hq
    | cell k =>
      obtain ⟨o, e, d⟩ := hq
      exact ⟨o, hg k o e, d⟩
    | fld k j =>
      obtain ⟨c, ns, ls, l, e, r⟩ := hq
      exact ⟨c, ns, ls, l, hg k _ e, r⟩
  have adE : ∀ q, Live sl s.hs q → ({ w' with io := w.io } : Wd).ad q = w'.ad q := fun q hq => by
    cases q with
    | slot i => rfl
    | fld k j => rfl
    | cell k =>
      obtain ⟨o, e, _⟩ := hq
      have hk := (List.getElem?_eq_some_iff.mp e).1
      show w.io.getD k 0 = w'.io.getD k 0
      rw [List.getD_eq_getElem?_getD, List.getD_eq_getElem?_getD, he k hk]
  refine ⟨⟨B.sub, fun i l e => ?_, fun k o e => ?_, I.len, fun q r hq hr e => ?_, fun q hq => ?_, B.keep, fun q hq => ?_, B.frz, ⟨B.grow.rd, B.grow.ins, I.grow.cells⟩, B.sle⟩, ⟨le.rd, le.ins, fun _ _ h => h⟩⟩
  · obtain ⟨x, e1, e2⟩ := B.slots i l e
    exact ⟨x, e1, LV.down he l (hsl i l e) e2⟩
  · have hk := (List.getElem?_eq_some_iff.mp e).1
    have o1 := I.objs k o e
    have o2 := B.objs k o (hg k o e)
    have hn : w.io.length = s.hs.length := I.len
    cases o with
    | dead => trivial
    | lst ds =>
      obtain ⟨a1, vs1, h1, h2, h3⟩ := o1
      obtain ⟨a, vs, k1, k2, k3⟩ := o2
      refine ⟨a, vs, ?_, k2, FVs.down he ds vs ?_ k3⟩
      · rw [he k hk] at k1
        exact k1
      · rw [← hn]
        exact nrs_of ds vs1 h3
    | dic ks ds =>
      obtain ⟨a1, vs1, h1, h2, h3, h4⟩ := o1
      obtain ⟨a, vs, k1, k2, k3, k4⟩ := o2
      refine ⟨a, vs, ?_, k2, k3, FVs.down he ds vs ?_ k4⟩
      · rw [he k hk] at k1
        exact k1
      · rw [← hn]
        exact nrs_of ds vs1 h4
    | ins c ns ls =>
      obtain ⟨a1, dx1, xs1, h1, h2, h3, h4⟩ := o1
      obtain ⟨a, dx, xs, k1, k2, k3, k4⟩ := o2
      refine ⟨a, dx, xs, ?_, k2, k3, LVs.down (w := { w' with io := w.io }) (w' := w') rfl rfl he ?_ k4⟩
      · rw [he k hk] at k1
        exact k1
      · rw [← hn]
        exact h4.nrOf
  · rw [adE q hq, adE r hr] at e
    exact B.inj q r (up q hq) (up r hr) e
  · rw [adE q hq]
    exact B.nof q (up q hq)
  · rw [adE q hq]
    exact B.own q (up q hq)
end
end Mi

set_option linter.all false
set_option maxRecDepth 100000
set_option maxHeartbeats 4000000
/-! Mi: defs and calls. -/
namespace Mi
open PySem PySem.Spec PyProof.Rows L2

abbrev Fn := List D → HS → Option (R D)
def start0 (N : Nat) (ds : List D) : SL := ds.map (fun d => some (.v d)) ++ List.replicate (N - ds.length) none
open Classical in
noncomputable def trimR (hs : HS) (r : Option (R D)) : Option (R D) := match r with
  | none => none
  | some (.ok d s') => if s'.hs.take hs.length = hs ∧ d.nr hs.length = true then some (.ok d ⟨[], hs⟩) else some (.ok d ⟨[], s'.hs⟩)
  | some (.exc c s') => if s'.hs.take hs.length = hs then some (.exc c ⟨[], hs⟩) else some (.exc c ⟨[], s'.hs⟩)
def outFl (r : Option (R Fl)) : Option (R D) := match r with
  | some (.ok .nx s') => some (.ok .non s')
  | some (.ok (.rt d) s') => some (.ok d s')
  | some (.exc c s') => some (.exc c s')
  | _ => none
noncomputable def fnR (N : Nat) (m : M Fl) : Fn := fun ds hs => trimR hs (outFl (m ⟨start0 N ds, hs⟩))
/-- what a def promises -/
def spF (g : G) (f : Fn) (N : Nat) : Sp := fun vs H Q E => vs.length = N ∧ ∃ n w hs ds, SR g n w ⟨[], hs⟩ [] H ∧ FVs g w.F w.io ds vs ∧ Out g n w [] (fun c d _ H' => E c d H') (f ds hs) (PostE g n w [] Q)
section
variable {g : G} {n : En} {w w1 : Wd} {σ : L2.St} {W : WX} {s s' : S} {H H' : Hp} {hs : HS}
theorem start_some : ∀ {ds : List D} {vs : List V} {F : Hp} {io : List Addr} {N1 N2 i : Nat} {l : L}, FVs g F io ds vs → (ds.map (fun d => some (L.v d)) ++ List.replicate N1 none)[i]? = some (some l) →
    ∃ x, (vs.map some ++ List.replicate N2 none)[i]? = some (some x) ∧ ∃ d, l = .v d ∧ FV g F io d x
  | [], vs, _, _, N1, N2, i, l, h, e => by
    have e' : (List.replicate N1 (none : Option L))[i]? = some (some l) := by simpa using e
    have := List.mem_of_getElem? e'
    rw [List.mem_replicate] at this
    cases this.2
  | d :: ds, _, _, _, N1, N2, 0, l, h, e => by
    obtain ⟨v, r, rfl, h1, _⟩ := h
    have e' : L.v d = l := by simpa using e
    exact ⟨v, rfl, d, e'.symm, h1⟩
  | d :: ds, _, _, _, N1, N2, i + 1, l, h, e => by
    obtain ⟨v, r, rfl, _, h2⟩ := h
    have e' : (ds.map (fun d => some (L.v d)) ++ List.replicate N1 none)[i]? = some (some l) := by simpa using e
    obtain ⟨x, e1, e2⟩ := start_some (N2 := N2) h2 e'
    exact ⟨x, by simpa using e1, e2⟩
theorem SR.starts (I : SR g n w ⟨[], hs⟩ [] H) {ds : List D} {vs : List V} {Nl : List Str} (f : FVs g w.F w.io ds vs) : SR g n w ⟨start0 Nl.length ds, hs⟩ (L2.start Nl vs) H := by
  have live : ∀ q, Live (start0 Nl.length ds) hs q → Live [] hs q := fun q hq => by
    cases q with
    | slot i =>
      obtain ⟨l, e, o⟩ := hq
      obtain ⟨x, _, d, e2, _⟩ := start_some (N2 := 0) f e
      subst e2
      exact o.elim
    | cell k => exact hq
    | fld k j => exact hq
  refine ⟨I.sub, fun i l e => ?_, I.objs, I.len, fun p q hp hq => I.inj p q (live p hp) (live q hq), fun q hq => I.nof q (live q hq), I.keep, fun q hq => I.own q (live q hq), I.frz, I.grow, ?_⟩
  · obtain ⟨x, e1, d, e2, e3⟩ := start_some (N2 := Nl.length - vs.length) f e
    subst e2
    exact ⟨x, e1, e3⟩
  · show (start0 Nl.length ds).length ≤ (L2.start Nl vs).length
    unfold start0 L2.start
    have := f.len
    simp only [List.length_append, List.length_map, List.length_replicate]
    omega
theorem SR.bare (I : SR g n w s σ H) : SR g n w ⟨[], s.hs⟩ [] H := I.weak (sl' := []) (σ' := []) (fun i l e => by simp at e) (fun i l x e => by simp at e) (Nat.le_refl _)
open Classical in
/-- a body's run, to what the def promises -/
theorem fn_body {E : XK} {Q : VK} {t : TS} {m : M Fl} {ds : List D} {vs : List V} {Nl : List Str} (I : SR g n w ⟨[], hs⟩ [] H) (f : FVs g w.F w.io ds vs)
    (h : Out g n w [] (fun c d _ H' => E c d H') (fnR Nl.length m ds hs) (PostE g n w [] Q)) (hr : RS g (fun c d _ H' => E c d H') t m) : t { nx := fun _ H' => Q .non H', rt := Q } (L2.start Nl vs) H := by
  refine hr n w _ _ H _ (I.starts f) ?_
  unfold fnR at h
  cases e : m ⟨start0 Nl.length ds, hs⟩ with
  | none =>
    rw [e] at h
    exact h
  | some r =>
    rw [e] at h
    have exk : ∀ {s' : S} {w' : Wd} {σ' : L2.St} {H' : Hp}, SR g n w' s' σ' H' → Le w.F w'.F w.io w'.io → s'.hs.take hs.length = hs → SR g n { w' with io := w.io } ⟨[], hs⟩ [] H' ∧ Le w.F w'.F w.io w.io := fun B l ht =>
      I.trim (s := ⟨[], hs⟩) B.bare l ht (fun i l e => by simp at e)
    have okk : ∀ (d : D) (s' : S), Out g n w [] (fun c d _ H' => E c d H') (trimR hs (some (.ok d s'))) (PostE g n w [] Q) → ∀ v w' σ' H', SR g n w' s' σ' H' → Le w.F w'.F w.io w'.io → FV g w'.F w'.io d v → Q v H' := fun d s' h v w' σ' H' B l fv => by
      by_cases c : s'.hs.take hs.length = hs ∧ d.nr hs.length = true
      · have h : Out g n w [] (fun c d _ H' => E c d H') (if s'.hs.take hs.length = hs ∧ d.nr hs.length = true then some (.ok d ⟨[], hs⟩) else some (.ok d ⟨[], s'.hs⟩)) (PostE g n w [] Q) := h
        rw [if_pos c] at h
        obtain ⟨B', l'⟩ := exk B l c.1
        refine h v _ H' B' l' (FV.down (io := w.io) (fun k hk => ?_) d v c.2 fv)
        have hk2 : k < w.io.length := by rw [I.len]; exact hk
        rw [List.getElem?_eq_getElem hk2]
        exact l.cells k _ (List.getElem?_eq_getElem hk2)
      · have h : Out g n w [] (fun c d _ H' => E c d H') (if s'.hs.take hs.length = hs ∧ d.nr hs.length = true then some (.ok d ⟨[], hs⟩) else some (.ok d ⟨[], s'.hs⟩)) (PostE g n w [] Q) := h
        rw [if_neg c] at h
        exact h v w' H' B.bare l fv
    cases r with
    | exc c s' =>
      show ∀ dd w' σ' H', SR g n w' s' σ' H' → Le w.F w'.F w.io w'.io → E (.ref (g.C c)) dd H'
      intro dd w' σ' H' B l
      by_cases k : s'.hs.take hs.length = hs
      · have h : Out g n w [] (fun c d _ H' => E c d H') (if s'.hs.take hs.length = hs then some (R.exc c ⟨[], hs⟩) else some (.exc c ⟨[], s'.hs⟩)) (PostE g n w [] Q) := h
        rw [if_pos k] at h
        obtain ⟨B', l'⟩ := exk B l k
        exact h dd _ H' B' l'
      · have h : Out g n w [] (fun c d _ H' => E c d H') (if s'.hs.take hs.length = hs then some (R.exc c ⟨[], hs⟩) else some (.exc c ⟨[], s'.hs⟩)) (PostE g n w [] Q) := h
        rw [if_neg k] at h
        exact h dd w' H' B.bare l
    | ok fl s' =>
      cases fl with
      | nx => exact fun w' σ' H' B l => okk .non s' h .non w' σ' H' B l rfl
      | rt d => exact fun v w' σ' H' B l fv => okk d s' h v w' σ' H' B l fv
      | bk => exact h.elim
      | ct => exact h.elim

/-! ### calls -/
def runF (f : Fn) (ds : List D) : M D := fun s => match f ds s.hs with
  | none => none
  | some (.ok d s') => some (.ok d ⟨s.sl, s'.hs⟩)
  | some (.exc c s') => some (.exc c ⟨s.sl, s'.hs⟩)
theorem run_sp {f : Fn} {N : Nat} {ds : List D} {vs : List V} {Q : VK} (hf : ∀ ds hs r, f ds hs = some r → (match r with | .ok _ s' => s'.sl = [] | .exc _ s' => s'.sl = [])) (I : SR g n w s σ H) (fv : FVs g w.F w.io ds vs) (hN : ds.length = N) (h : Out g n w σ W (runF f ds s) (PostE g n w σ Q)) : spF g f N vs H Q (WE W σ) := by
  refine ⟨by rw [← fv.len]; exact hN, enOf w s.hs H, w, s.hs, ds, I.enter, fv, ?_⟩
  unfold runF at h
  cases e : f ds s.hs with
  | none =>
    rw [e] at h
    exact h
  | some r =>
    rw [e] at h
    have hz := hf ds s.hs r e
    cases r with
    | exc c s' =>
      obtain ⟨sl', hs'⟩ := s'
      have hz' : sl' = [] := hz
      subst hz'
      exact fun dd w' H' B l => h dd _ H' (I.back B) l
    | ok d s' =>
      obtain ⟨sl', hs'⟩ := s'
      have hz' : sl' = [] := hz
      subst hz'
      exact fun v w' H' B l fv' => h v _ H' (I.back B) l fv'
def eCall (f : Fn) (N : Nat) (m : M (List D)) : M D := bnd m fun ds => if ds.length = N then runF f ds else stuck
def FnSl (f : Fn) : Prop := ∀ ds hs r, f ds hs = some r → (match r with | .ok _ s' => s'.sl = [] | .exc _ s' => s'.sl = [])
open Classical in
theorem fnSl (N : Nat) (m : M Fl) : FnSl (fnR N m) := fun ds hs r e => by
  unfold fnR at e
  cases e2 : outFl (m ⟨start0 N ds, hs⟩) with
  | none =>
    rw [e2] at e
    cases e
  | some r' =>
    rw [e2] at e
    cases r' with
    | ok d s' =>
      have e : (if s'.hs.take hs.length = hs ∧ d.nr hs.length = true then some (R.ok d ⟨[], hs⟩) else some (.ok d ⟨[], s'.hs⟩)) = some r := e
      split at e <;> (cases e; rfl)
    | exc c s' =>
      have e : (if s'.hs.take hs.length = hs then some (R.exc c ⟨[], hs⟩) else some (.exc c ⟨[], s'.hs⟩)) = some r := e
      split at e <;> (cases e; rfl)
theorem re_call {tr : TA} {mr : M (List D)} {f : Fn} {N : Nat} (hf : FnSl f) (ha : RA g W tr mr) : RE g W (tCallS (spF g f N) (WE W) tr) (eCall f N mr) := by
  intro n w s σ H Q I h
  refine ha n w s σ H _ I (h.bnd.mono fun ds s1 h1 vs w1 H1 I1 l1 f1 => ?_)
  by_cases hN : ds.length = N
  · rw [if_pos hN] at h1
    exact run_sp hf I1 f1 hN ((Out.le l1 h1).mono fun _ _ k => k.le l1)
  · rw [if_neg hN] at h1
    exact h1.elim
end

/-! ### the contexts -/
/-- a class of one's own whose instances are raised: what K says of it -/
def ExcC (K : PySem.W.Frag) (C : Addr) : Prop := ∃ (B newId initId : String) (bmB : List Value), ExcBaseFacts B newId initId bmB ∧ PySem.W.excIn K C bmB newId = true ∧ PySem.W.keepIn K (.ref C) = true ∧
  PySem.W.subIn K (.ref C) (.type "BaseException") = some true ∧ PySem.W.typeIn K (.ref C) = some (.type "type")
/-- a def that stands, by its name, with what it does -/
structure FnAt (P : Program) (w : World) (K : PySem.W.Frag) (mg : Str → Option Value) (base : Heap) (g : G) (k : Nat) (x : Str) (N : Nat) (f : Fn) : Prop where
  ex : ∃ (a : Addr) (fd : FuncData) (ps : List Str), FnOk P w K mg base (L2.CX P w) k a fd ps (spF g f N) ∧ mg x = some (.ref a) ∧ PySem.W.keepIn K (.ref a) = true ∧ Binds K fd ps []
  sl : FnSl f
end Mi

set_option linter.all false
set_option maxRecDepth 100000
set_option maxHeartbeats 4000000
/-! Mi: things that nobody knows, kept; walks; comprehensions. -/
namespace Mi
open PySem PySem.Spec PyProof.Rows L2
section
variable {g : G} {n : En} {w w' : Wd} {s s' : S} {σ σ' : L2.St} {H H' : Hp} {p : Addr} {W : WX}
/-- the entry of a part of a def -/
def enS (w : Wd) (s : S) (H : Hp) : En := ⟨H, fun a => ∃ q, Live s.sl s.hs q ∧ w.ad q = a, w.F, w.io⟩
theorem SR.into (I : SR g n w s σ H) : SR g (enS w s H) w s σ H :=
  ⟨I.sub, I.slots, I.objs, I.len, I.inj, I.nof, fun a o e _ => e, fun q hq => .inl ⟨q, hq, rfl⟩, fun a o e => .inl ⟨o, e⟩, Le.refl _ _, I.sle⟩
theorem SR.outof (I : SR g n w s σ H) (B : SR g (enS w s H) w' s' σ' H') : SR g n w' s' σ' H' := by
  have cv : ∀ a, (enS w s H).W a → n.W a ∨ n.H a = none := fun a ⟨q, hq, e⟩ => by
    subst e
    exact I.own q hq
  refine ⟨B.sub, B.slots, B.objs, B.len, B.inj, B.nof, fun a o e nw => B.keep a o (I.keep a o e nw) (fun z => ?_), fun q hq => ?_, fun a o e => ?_, I.grow.trans B.grow, B.sle⟩
  · rcases cv a z with h | h
    · exact nw h
    · rw [h] at e
      cases e
  · rcases B.own q hq with h | h
    · exact cv _ h
    · exact I.entry h
  · rcases B.frz a o e with ⟨o', h⟩ | h | h
    · exact I.frz a o' h
    · exact .inr (cv a h)
    · exact .inr (I.entry h)
theorem Frh.carry {u : HO} (I : SR g n w s σ H) (f : Frh n w s H p u) (B : SR g (enS w s H) w' s' σ' H') : Frh n w' s' H' p u := by
  have nW : ¬ (enS w s H).W p := fun ⟨q, hq, e⟩ => f.ne q hq e
  refine ⟨B.keep p u f.at_ nW, ?_, fun q hq e => ?_, f.en⟩
  · cases z : w'.F p with
    | none => rfl
    | some o =>
      rcases B.frz p o z with ⟨o', h⟩ | h | h
      · have h' : w.F p = some o' := h
        rw [f.F] at h'
        cases h'
      · exact (nW h).elim
      · have h' : H p = none := h
        rw [f.at_] at h'
        cases h'
  · rcases B.own q hq with h | h
    · rw [e] at h
      exact nW h
    · rw [e] at h
      have h' : H p = none := h
      rw [f.at_] at h'
      cases h'
/-- what nobody knows changes -/
theorem SR.updU {u u' : HO} (I : SR g n w s σ H) (f : Frh n w s H p u) : SR g n w s σ (upd H p u') ∧ Frh n w s (upd H p u') p u' := by
  have hF : ∀ a o, w.F a = some o → a ≠ p := fun a o e => ne_of_none e f.F
  refine ⟨⟨fun a o e => by rw [upd_ne (hF a o e)]; exact I.sub a o e, fun i l e => ?_, fun k o e => ?_, I.len, I.inj, I.nof, fun a o e nw => ?_, I.own, I.frz, I.grow, I.sle⟩, upd_same, f.F, f.ne, f.en⟩
  · obtain ⟨x, e1, e2⟩ := I.slots i l e
    refine ⟨x, e1, LV.mono (Le.refl _ _) l (fun ow v q => ?_) e2⟩
    have z : w.sa i ≠ p := f.ne (.slot i) ⟨l, e, ow⟩
    rw [upd_ne z]
    exact q
  · refine OR.mono (w' := w) (Le.refl _ _) o (fun hd b z eb q => ?_) (fun c ns ls i l ev el ow => ⟨rfl, fun z q => ?_⟩) (I.objs k o e)
    · have this := f.ne (.cell k) ⟨o, e, hd⟩
      have eb' : w.ad (.cell k) = b := getD_of eb
      rw [eb'] at this
      rw [upd_ne this]
      exact q
    · subst ev
      have this' : w.fa k i ≠ p := f.ne (.fld k i) ⟨c, ns, ls, l, e, el, ow⟩
      rw [upd_ne this']
      exact q
  · have hb : a ≠ p := by
      intro z
      subst z
      rcases f.en with h | h
      · exact nw h
      · rw [h] at e
        cases e
    rw [upd_ne hb]
    exact I.keep a o e nw
/-- slots whose values are kept -/
def keep1 : Option L → Option L
  | some (.v d) => some (.v d)
  | _ => none
def keepV (sl : SL) : SL := sl.map keep1
theorem keepV_some {sl : SL} {i : Nat} {l : L} (e : (keepV sl)[i]? = some (some l)) : ∃ d, l = .v d ∧ sl[i]? = some (some (.v d)) := by
  unfold keepV at e
  rw [List.getElem?_map] at e
  cases z : sl[i]? with
  | none =>
    rw [z] at e
    cases e
  | some o =>
    rw [z] at e
    cases o with
    | none => cases e
    | some l' =>
      cases l' with
      | v d =>
        cases e
        exact ⟨d, rfl, rfl⟩
      | ol ds => cases e
      | od ks ds => cases e
/-- slots as they were, the rest as it is now -/
theorem SR.reslot (I : SR g n w s σ H) (B : SR g n w' s' σ' H') (le : Le w.F w'.F w.io w'.io) : SR g n w' ⟨keepV s.sl, s'.hs⟩ σ H' := by
  have live : ∀ q, Live (keepV s.sl) s'.hs q → Live s'.sl s'.hs q := fun q hq => by
    cases q with
    | slot i =>
      obtain ⟨l, e, o⟩ := hq
      obtain ⟨d, rfl, _⟩ := keepV_some e
      exact o.elim
    | cell k => exact hq
    | fld k j => exact hq
  refine ⟨B.sub, fun i l e => ?_, B.objs, B.len, fun p q hp hq => B.inj p q (live p hp) (live q hq), fun q hq => B.nof q (live q hq), B.keep, fun q hq => B.own q (live q hq), B.frz, B.grow, ?_⟩
  · obtain ⟨d, rfl, e2⟩ := keepV_some e
    obtain ⟨x, e3, e4⟩ := I.slots i _ e2
    exact ⟨x, e3, FV.mono le d x e4⟩
  · show (keepV s.sl).length ≤ σ.length
    unfold keepV
    rw [List.length_map]
    exact I.sle

/-! ### walks over values -/
def chrs (z : Str) : List D := z.cps.toList.map fun c => .str ⟨#[c]⟩
def walkO : D → Option (List D)
  | .lst ds => some ds
  | .tup ds => some ds
  | .str z => some (chrs z)
  | _ => none
/-- any list, tuple, text -/
def iAny (K : PySem.W.Frag) (te : TE) : TI := fun σ H R => te σ H fun v H1 => (∃ a xs, v = .ref a ∧ SqL K H1 a xs ∧ R (Itl K a) H1) ∨ (∃ a xs, v = .ref a ∧ SqT K H1 a xs ∧ R (Itt K a) H1) ∨ ∃ x, v = .str x ∧ R (Its x) H1
theorem pi_any {X : Cx} {tg e : Expr} {te : TE} (he : PE X e te) : PI X tg e (iAny X.K te) := by
  refine ⟨fun pins s σ H R I h => ?_⟩
  refine thn (he.run pins s σ H _ I h) fun v s1 ⟨y, H1, I1, r1, q⟩ => ?_
  rcases q with ⟨a, xs, e, hq, q⟩ | ⟨a, xs, e, hq, q⟩ | ⟨x, ex, q⟩
  · subst e
    cases r1
    obtain ⟨its, rv, p, hz⟩ := I1.list hq
    refine wpAny_pyIter_list p.isList ?_
    refine ⟨s1.heap.objs.size, [s1.heap.objs.size], _, _, H1, rfl, I1.kept (t' := s1.toks) fun b o e => Heap.get?_push_of_some _ e, turn_list a _, ⟨_, Heap.get?_push_size _ rfl, rfl, rfl⟩, fun b hb => ?_, q⟩
    have e : b = s1.heap.objs.size := by simpa using hb
    subst e
    exact I1.fpOk (Nat.le_refl _) (I1.hok.fresh (Nat.le_refl _))
  · subst e
    cases r1
    obtain ⟨its, rv, p, hz⟩ := I1.tuple hq
    refine wpAny_pyIter_tuple (show s1.heap.IsTuple a its.toArray from p) ?_
    refine ⟨s1.heap.objs.size, [s1.heap.objs.size], _, _, H1, rfl, I1.kept (t' := s1.toks) fun b o e => Heap.get?_push_of_some _ e, turn_tuple a _, ⟨_, Heap.get?_push_size _ rfl, rfl, rfl⟩, fun b hb => ?_, q⟩
    have e : b = s1.heap.objs.size := by simpa using hb
    subst e
    exact I1.fpOk (Nat.le_refl _) (I1.hok.fresh (Nat.le_refl _))
  · subst ex
    obtain ⟨t, rfl⟩ := r1
    cases ha : x.cps.all (· < 128)
    · exact wpAny_pyIter_wide ha (pi_one (tk := s1.toks) I1 _ (turn_str _ x t "str_iterator" (.inr rfl)) ⟨_, Heap.get?_push_size _ rfl, rfl, rfl⟩ q)
    · exact wpAny_pyIter_ascii ha (pi_one (tk := s1.toks) I1 _ (turn_str _ x t "str_ascii_iterator" (.inl rfl)) ⟨_, Heap.get?_push_size _ rfl, rfl, rfl⟩ q)
theorem wok_list {F : Hp} {io : List Addr} {a : Addr} {xs : List V} {ds : List D} (hq : SqL g.K F a xs) (f : FVs g F io ds xs) : WOk g (Itl g.K a) ds F io := by
  refine ⟨_, _, by rw [f.len]; exact walk_list (xs := xs), fun F' io' H l hs => sqL_sub hs (l.sqL hq), fun i H x H' n w s σ hi y I l => ?_⟩
  obtain ⟨e1, e2⟩ := y
  subst e1
  obtain ⟨d, e3, e4⟩ := f.getV e2
  exact ⟨d, w, e3, I, Le.refl _ _, FV.mono l _ _ e4⟩
theorem wok_tup {F : Hp} {io : List Addr} {a : Addr} {xs : List V} {ds : List D} (hq : SqT g.K F a xs) (f : FVs g F io ds xs) : WOk g (Itt g.K a) ds F io := by
  refine ⟨_, _, by rw [f.len]; exact walk_tup (xs := xs), fun F' io' H l hs => sqT_sub hs (l.sqT hq), fun i H x H' n w s σ hi y I l => ?_⟩
  obtain ⟨e1, e2⟩ := y
  subst e1
  obtain ⟨d, e3, e4⟩ := f.getV e2
  exact ⟨d, w, e3, I, Le.refl _ _, FV.mono l _ _ e4⟩
theorem wok_str {F : Hp} {io : List Addr} {z : Str} : WOk g (Its z) (chrs z) F io := by
  have hl : (chrs z).length = z.cps.size := by simp [chrs]
  refine ⟨_, _, by rw [hl]; exact walk_str, fun _ _ _ _ _ => trivial, fun i H x H' n w s σ hi y I l => ?_⟩
  obtain ⟨e1, c, e2, e3⟩ := y
  subst e1
  refine ⟨.str ⟨#[c]⟩, w, ?_, I, Le.refl _ _, e3⟩
  unfold chrs
  rw [List.getElem?_map]
  have : z.cps.toList[i]? = some c := by simpa using e2
  rw [this]
  rfl
def iW (m : M D) : M (List D) := bnd m fun d => lft (walkO d)
theorem ri_any {te : TE} {me : M D} (h : RE g W te me) : RI g W (iAny g.K te) (iW me) := by
  intro n w s σ H R I hq
  refine h n w s σ H _ I (hq.bnd.mono fun d s1 h1 v w1 H1 I1 l1 f1 => ?_)
  obtain ⟨ds, e, h2⟩ := h1.lft
  cases d with
  | lst ds' =>
    cases (show some ds' = some ds from e)
    obtain ⟨a, vs, rfl, k1, k2⟩ := f1
    exact .inl ⟨a, vs, rfl, sqL_sub I1.sub k1, h2 _ w1 H1 I1 l1 (wok_list k1 k2)⟩
  | tup ds' =>
    cases (show some ds' = some ds from e)
    obtain ⟨a, vs, rfl, k1, k2⟩ := f1
    exact .inr (.inl ⟨a, vs, rfl, sqT_sub I1.sub k1, h2 _ w1 H1 I1 l1 (wok_tup k1 k2)⟩)
  | str z =>
    cases (show some (chrs z) = some ds from e)
    exact .inr (.inr ⟨z, f1, h2 _ w1 H1 I1 l1 wok_str⟩)
  | _ => cases e
/-! ranges -/
def smallI (i : Int) : Bool := decide (-(2 ^ 62) ≤ i) && decide (i < 2 ^ 62)
theorem smallI_of {i : Int} (h : smallI i = true) : -(2 ^ 62) ≤ i ∧ i < 2 ^ 62 := by
  obtain ⟨a, b⟩ := Bool.and_eq_true_iff.mp h
  exact ⟨of_decide_eq_true a, of_decide_eq_true b⟩
def rngL (lo : Int) (n : Nat) : List D := (List.range n).map fun k => .int (lo + (k : Nat))
def rngO : List D → Option (List D)
  | [.int j] => if smallI j then some (rngL 0 j.toNat) else none
  | [.int i, .int j] => if smallI i && smallI j then some (rngL i (j - i).toNat) else none
  | _ => none
theorem wok_rng {F : Hp} {io : List Addr} {lo : Int} {k : Nat} : WOk g (Itr lo k) (rngL lo k) F io := by
  have hl : (rngL lo k).length = k := by simp [rngL]
  refine ⟨_, _, by rw [hl]; exact walk_range, fun _ _ _ _ _ => trivial, fun i H x H' n w s σ hi y I l => ?_⟩
  obtain ⟨e1, e2⟩ := y
  subst e1 e2
  refine ⟨.int (lo + (i : Nat)), w, ?_, I, Le.refl _ _, rfl⟩
  unfold rngL
  rw [List.getElem?_map, List.getElem?_range (by rw [hl] at hi; exact hi)]
  rfl
def iR (m : M (List D)) : M (List D) := bnd m fun ds => lft (rngO ds)
theorem ri_rng1 {ta : TA} {ma : M (List D)} (h : RA g W ta ma) (h1 : ∀ s ds s', ma s = some (.ok ds s') → ds.length = 1) : RI g W (iRng1 ta) (iR ma) := by
  intro n w s σ H R I hq
  have hb : Out g n w σ W (ma s) fun ds s1 => ds.length = 1 ∧ Out g n w σ W (lft (rngO ds) s1) (fun ds s' => ∀ J w' H', SR g n w' s' σ H' → Le w.F w'.F w.io w'.io → WOk g J ds w'.F w'.io → R J H') := by
    have hq' := hq.bnd
    cases e : ma s with
    | none =>
      rw [e] at hq'
      exact hq'
    | some r =>
      rw [e] at hq'
      cases r with
      | exc c s' => exact hq'
      | ok ds s' => exact ⟨h1 s ds s' e, hq'⟩
  refine h n w s σ H _ I (hb.mono fun ds s1 ⟨hl, h1⟩ vs w1 H1 I1 l1 f1 => ?_)
  obtain ⟨zs, e, h2⟩ := h1.lft
  unfold rngO at e
  split at e
  · rename_i j _
    cases q : smallI j with
    | false =>
      rw [q] at e
      cases e
    | true =>
      rw [q] at e
      cases e
      obtain ⟨v, r, rfl, k1, k2⟩ := f1
      have k1' : v = .int j := k1
      have k2' : r = [] := k2
      subst k1' k2'
      exact ⟨j, rfl, (smallI_of q).1, (smallI_of q).2, h2 _ w1 H1 I1 l1 wok_rng⟩
  · cases hl
  · cases e
theorem ri_rng2 {ta : TA} {ma : M (List D)} (h : RA g W ta ma) (h1 : ∀ s ds s', ma s = some (.ok ds s') → ds.length = 2) : RI g W (iRng2 ta) (iR ma) := by
  intro n w s σ H R I hq
  have hb : Out g n w σ W (ma s) fun ds s1 => ds.length = 2 ∧ Out g n w σ W (lft (rngO ds) s1) (fun ds s' => ∀ J w' H', SR g n w' s' σ H' → Le w.F w'.F w.io w'.io → WOk g J ds w'.F w'.io → R J H') := by
    have hq' := hq.bnd
    cases e : ma s with
    | none =>
      rw [e] at hq'
      exact hq'
    | some r =>
      rw [e] at hq'
      cases r with
      | exc c s' => exact hq'
      | ok ds s' => exact ⟨h1 s ds s' e, hq'⟩
  refine h n w s σ H _ I (hb.mono fun ds s1 ⟨hl, h1⟩ vs w1 H1 I1 l1 f1 => ?_)
  obtain ⟨zs, e, h2⟩ := h1.lft
  unfold rngO at e
  split at e
  · cases hl
  · rename_i i j _
    cases q : smallI i && smallI j with
    | false =>
      rw [q] at e
      cases e
    | true =>
      rw [q] at e
      cases e
      obtain ⟨q1, q2⟩ := Bool.and_eq_true_iff.mp q
      obtain ⟨v, r, rfl, k1, v2, r2, rfl, k2, k3⟩ := f1
      have k1' : v = .int i := k1
      have k2' : v2 = .int j := k2
      have k3' : r2 = [] := k3
      subst k1' k2' k3'
      exact ⟨i, j, rfl, ⟨(smallI_of q1).1, (smallI_of q1).2, (smallI_of q2).1, (smallI_of q2).2⟩, h2 _ w1 H1 I1 l1 wok_rng⟩
  · cases e
/-! enumerate of a list -/
def enumL : Nat → List D → List D
  | _, [] => []
  | k, d :: ds => .tup [.int (k : Nat), d] :: enumL (k + 1) ds
theorem enumL_get : ∀ {ds : List D} {k i : Nat} {d : D}, ds[i]? = some d → (enumL k ds)[i]? = some (.tup [.int ((k + i : Nat) : Int), d])
  | [], _, _, _, e => by simp at e
  | d :: ds, k, 0, d', e => by
    have e' : d = d' := by simpa using e
    subst e'
    rfl
  | d :: ds, k, i + 1, d', e => by
    have := enumL_get (k := k + 1) (i := i) (d := d') (by simpa using e : ds[i]? = some d')
    rw [show k + (i + 1) = k + 1 + i by omega]
    simpa [enumL] using this
theorem enumL_len : ∀ (ds : List D) (k : Nat), (enumL k ds).length = ds.length
  | [], _ => rfl
  | d :: ds, k => by
    show (enumL (k + 1) ds).length + 1 = ds.length + 1
    rw [enumL_len ds]
theorem wok_enum {F : Hp} {io : List Addr} {a : Addr} {xs : List V} {ds : List D} (hq : SqL g.K F a xs) (f : FVs g F io ds xs) : WOk g (Ite g.K a) (enumL 0 ds) F io := by
  refine ⟨_, _, by rw [enumL_len, f.len]; exact walk_enum (xs := xs), fun F' io' H l hs => sqL_sub hs (l.sqL hq), fun i H x H' n w s σ hi y I l => ?_⟩
  obtain ⟨T, x1, y1, rfl, hT, rfl, e1, e2⟩ := y
  cases e1
  obtain ⟨d, e3, e4⟩ := f.getV e2
  have J := I.new (u := .tup [.int (i : Nat), y1]) hT
  have le : Le w.F (upd w.F T (.tup [.int (i : Nat), y1])) w.io w.io := le_new (I.Fnone hT)
  refine ⟨.tup [.int (i : Nat), d], _, ?_, J, le, T, _, rfl, SqT.of upd_same, _, _, rfl, rfl, _, _, rfl, FV.mono (l.trans le) _ _ e4, rfl⟩
  have := enumL_get (k := 0) e3
  rw [Nat.zero_add] at this
  exact this
def oneL : List D → Option D
  | [d] => some d
  | _ => none
def iE (m : M (List D)) : M (List D) := bnd m fun ds => lft ((oneL ds).bind fun d => match d with
  | .lst ds => some (enumL 0 ds)
  | _ => none)
theorem ri_enum {ta : TA} {ma : M (List D)} (h : RA g W ta ma) : RI g W (iEnum g.K ta) (iE ma) := by
  intro n w s σ H R I hq
  refine h n w s σ H _ I (hq.bnd.mono fun ds s1 h1 vs w1 H1 I1 l1 f1 => ?_)
  obtain ⟨zs, e, h2⟩ := h1.lft
  obtain ⟨d, e1, e2⟩ := Option.bind_eq_some_iff.mp e
  unfold oneL at e1
  split at e1
  · cases e1
    obtain ⟨v, r, rfl, k1, k2⟩ := f1
    have k2' : r = [] := k2
    subst k2'
    cases d with
    | lst ds' =>
      cases (show some (enumL 0 ds') = some zs from e2)
      obtain ⟨a, us, rfl, k3, k4⟩ := k1
      exact ⟨a, us, rfl, sqL_sub I1.sub k3, h2 _ w1 H1 I1 l1 (wok_enum k3 k4)⟩
    | _ => cases e2
  · cases e1
/-! reversed -/
theorem wok_revL {F : Hp} {io : List Addr} {a : Addr} {xs : List V} {ds : List D} (hq : SqL g.K F a xs) (f : FVs g F io ds xs) : WOk g (Itv g.K a xs.length) ds.reverse F io := by
  refine ⟨_, _, by rw [List.length_reverse, f.len]; exact walk_rev (xs := xs), fun F' io' H l hs => sqL_sub hs (l.sqL hq), fun i H x H' n w s σ hi y I l => ?_⟩
  obtain ⟨e1, e2⟩ := y
  subst e1
  obtain ⟨d, e3, e4⟩ := f.getV e2
  rw [List.length_reverse] at hi
  refine ⟨d, w, ?_, I, Le.refl _ _, FV.mono l _ _ e4⟩
  rw [List.getElem?_reverse hi, f.len]
  exact e3

/-! ### comprehensions -/
def wipeL (sl : SL) : List Nat → SL
  | [] => sl
  | v :: vs => (wipeL sl vs).set v none
theorem wipeL_some {sl : SL} {i : Nat} {l : L} : ∀ {vs : List Nat}, (wipeL sl vs)[i]? = some (some l) → sl[i]? = some (some l) ∧ i ∉ vs
  | [], h => ⟨h, by simp⟩
  | v :: vs, h => by
    have h : ((wipeL sl vs).set v none)[i]? = some (some l) := h
    by_cases e : i = v
    · subst e
      rw [List.getElem?_set] at h
      simp at h
    · rw [List.getElem?_set_ne (Ne.symm e)] at h
      obtain ⟨a, b⟩ := wipeL_some h
      exact ⟨a, by simp [e, b]⟩
theorem wipe_get {σ : L2.St} {i : Nat} {x : V} : ∀ {vs : List Nat}, σ[i]? = some (some x) → i ∉ vs → (wipe σ vs)[i]? = some (some x)
  | [], h, _ => h
  | v :: vs, h, k => by
    have k1 : i ≠ v := fun z => k (by simp [z])
    show ((wipe σ vs).set v none)[i]? = _
    rw [List.getElem?_set_ne (Ne.symm k1)]
    exact wipe_get h (fun z => k (List.mem_cons_of_mem _ z))
theorem wipeL_len (sl : SL) : ∀ vs : List Nat, (wipeL sl vs).length = sl.length
  | [] => rfl
  | v :: vs => by
    show ((wipeL sl vs).set v none).length = _
    rw [List.length_set, wipeL_len sl vs]
theorem SR.wiped (I : SR g n w s σ H) (vs : List Nat) {σ2 : L2.St} (hw : wipe σ2 vs = wipe σ vs) : SR g n w ⟨wipeL s.sl vs, s.hs⟩ (wipe σ2 vs) H := by
  rw [hw]
  refine I.weak (sl' := wipeL s.sl vs) (fun i l e => (wipeL_some e).1) (fun i l x e1 e2 => wipe_get e2 (wipeL_some e1).2) ?_
  rw [wipeL_len, wipe_length]
  exact I.sle
theorem wipe_at (σ : L2.St) (i : Nat) : ∀ vs : List Nat, (wipe σ vs)[i]? = if i ∈ vs then (σ[i]?).map (fun _ => none) else σ[i]?
  | [] => by simp [wipe]
  | v :: vs => by
    show ((wipe σ vs).set v none)[i]? = _
    have h := wipe_at σ i vs
    by_cases e : i = v
    · subst e
      rw [if_pos (by simp)]
      by_cases hl : i < σ.length
      · rw [List.getElem?_set_self (by rw [wipe_length]; exact hl), List.getElem?_eq_getElem hl]
        rfl
      · rw [List.getElem?_eq_none (by rw [List.length_set, wipe_length]; omega), List.getElem?_eq_none (by omega)]
        rfl
    · rw [List.getElem?_set_ne (Ne.symm e), h]
      by_cases m : i ∈ vs
      · rw [if_pos m, if_pos (List.mem_cons_of_mem _ m)]
      · rw [if_neg m, if_neg (by simp [e, m])]
theorem wipe_wipe (σ : L2.St) (vs : List Nat) : wipe (wipe σ vs) vs = wipe σ vs := by
  apply List.ext_getElem?
  intro i
  rw [wipe_at, wipe_at]
  by_cases m : i ∈ vs
  · rw [if_pos m, if_pos m, Option.map_map]
    rfl
  · rw [if_neg m, if_neg m]
theorem wipe_set {σ : L2.St} {vs : List Nat} {j : Nat} {x : Option V} (h : j ∈ vs) : wipe (σ.set j x) vs = wipe σ vs := by
  apply List.ext_getElem?
  intro i
  rw [wipe_at, wipe_at]
  by_cases m : i ∈ vs
  · rw [if_pos m, if_pos m]
    by_cases e : i = j
    · subst e
      by_cases hl : i < σ.length
      · rw [List.getElem?_set_self hl, List.getElem?_eq_getElem hl]
        rfl
      · rw [List.getElem?_eq_none (by rw [List.length_set]; omega), List.getElem?_eq_none (by omega)]
    · rw [List.getElem?_set_ne (Ne.symm e)]
  · rw [if_neg m, if_neg m, List.getElem?_set_ne (fun z => m (by rw [← z]; exact h))]
def lcL (f : D → M Unit) (t : M Bool) (e : M D) (vs : List Nat) : List D → List D → M (List D)
  | [], acc => ret acc
  | d :: ds, acc => bnd (f d) fun _ => bnd t fun b => if b then (if lenOk acc.length then bnd e fun y s => lcL f t e vs ds (acc ++ [y]) ⟨wipeL s.sl vs, s.hs⟩ else stuck) else fun s => lcL f t e vs ds acc ⟨wipeL s.sl vs, s.hs⟩
def lcM (it : M (List D)) (f : D → M Unit) (t : M Bool) (e : M D) (vs : List Nat) : M (List D) := bnd it fun ds s1 => match lcL f t e vs ds [] ⟨wipeL s1.sl vs, s1.hs⟩ with
  | some (.ok acc s') => some (.ok acc ⟨keepV s1.sl, s'.hs⟩)
  | _ => none
def W0 : WX := fun _ _ _ _ => False
/-- a run that let nothing out -/
theorem Out.okD {α : Type} {r : Option (R α)} {k : α → S → Prop} (h : ∃ a s', r = some (.ok a s') ∧ k a s') : Out g n w σ W r k := by
  obtain ⟨a, s', e, q⟩ := h
  rw [e]
  exact q
/-- the target leaves the other slots as they were -/
def TgOk (gt : TG) (vs : List Nat) : Prop := ∀ v σ H (Q : L2.St → Hp → Prop), (gt v σ H fun σ2 H2 => wipe σ2 vs = wipe σ vs → Q σ2 H2) → gt v σ H fun σ2 H2 => wipe σ2 vs = wipe σ vs ∧ Q σ2 H2
theorem rl_lc {wi : TI} {gt : TG} {tt : TT} {te : TE} {mi : M (List D)} {f : D → M Unit} {mt : M Bool} {me : M D} {vs : List Nat} (hi : RI g W wi mi) (hg : RG g gt f) (hk : TgOk gt vs) (hx : NoX f) (ht : RT g W0 tt mt) (he : RE g W0 te me) :
    RL g W (tLc wi gt tt te vs) (lcM mi f mt me vs) := by
  intro n w s σ H Q I hq
  refine hi n w s σ H _ I (hq.bnd.mono fun ds s1 h1 J w1 H1 I1 l1 wk => ?_)
  intro Dp hDp
  obtain ⟨I2, fr⟩ := I1.newL (u := .lst []) hDp
  obtain ⟨Gd, Y, wk, hG, hY⟩ := wk
  -- what the loop gives
  obtain ⟨acc', s', eL, hQ⟩ : ∃ acc' s', lcL f mt me vs ds [] ⟨wipeL s1.sl vs, s1.hs⟩ = some (.ok acc' s') ∧ PostL g n w σ Q acc' ⟨keepV s1.sl, s'.hs⟩ := by
    cases e : lcL f mt me vs ds [] ⟨wipeL s1.sl vs, s1.hs⟩ with
    | none =>
      rw [e] at h1
      exact h1.elim
    | some r =>
      rw [e] at h1
      cases r with
      | ok a s' => exact ⟨a, s', rfl, h1⟩
      | exc c s' => exact h1.elim
  refine lc_it wk (fun i H2 => ∃ w2 s2 ys acc, SR g n w2 s2 (wipe σ vs) H2 ∧ Le w1.F w2.F w1.io w2.io ∧ Frh n w2 s2 H2 Dp (.lst ys) ∧ FVs g w2.F w2.io acc ys ∧ lcL f mt me vs (ds.drop i) acc s2 = some (.ok acc' s'))
    ⟨w1, ⟨wipeL s1.sl vs, s1.hs⟩, [], [], I2.wiped vs rfl, Le.refl _ _, ⟨fr.at_, fr.F, fun q hq => fr.ne q ?_, fr.en⟩, .nil, by rw [List.drop_zero]; exact eL⟩ (fun i H2 _ ⟨w2, s2, _, _, I2, l2, _⟩ => hG _ _ _ l2 I2.sub) ?_ ?_
  · cases q with
    | slot i =>
      obtain ⟨l, e, o⟩ := hq
      exact ⟨l, (wipeL_some e).1, o⟩
    | cell k => exact hq
    | fld k j => exact hq
  · rintro i x H2 H3 hlt ⟨w2, s2, ys, acc, J2, l2, fr2, fa2, e2⟩ y
    -- the turn begins: what nobody knows is kept from here
    obtain ⟨dd, w3, e3, J3, l3, f3⟩ := hY i H2 x H3 (enS w2 s2 H2) w2 s2 (wipe σ vs) hlt y J2.into l2
    have ed : ds.drop i = dd :: ds.drop (i + 1) := by
      obtain ⟨hh, e'⟩ := List.getElem?_eq_some_iff.mp e3
      rw [List.drop_eq_getElem_cons hh, e']
    rw [ed] at e2
    have e2 : bnd (f dd) (fun _ => bnd mt fun b => if b then (if lenOk acc.length then bnd me fun y s => lcL f mt me vs (ds.drop (i + 1)) (acc ++ [y]) ⟨wipeL s.sl vs, s.hs⟩ else stuck) else fun s => lcL f mt me vs (ds.drop (i + 1)) acc ⟨wipeL s.sl vs, s.hs⟩) s2 = some (.ok acc' s') := e2
    have hk2 := hk x (wipe σ vs) H3
    rw [wipe_wipe] at hk2
    refine hk2 _ (hg (enS w2 s2 H2) w3 s2 (wipe σ vs) H3 x dd _ J3 f3 ?_)
    cases ef : f dd s2 with
    | none =>
      unfold bnd at e2
      rw [ef] at e2
      cases e2
    | some r =>
      cases r with
      | exc c z => exact (hx _ _ _ _ ef).elim
      | ok u s4 =>
        rw [bnd_ok ef] at e2
        intro w4 σ4 H4 J4 l4
        intro hw4
        have fr4 := Frh.carry J2 fr2 J4
        refine ht (enS w2 s2 H2) w4 s4 σ4 H4 _ J4 (Out.okD ?_)
        cases et : mt s4 with
        | none =>
          unfold bnd at e2
          rw [et] at e2
          cases e2
        | some r =>
          cases r with
          | exc c z =>
            rw [bnd_exc et] at e2
            cases e2
          | ok b s5 =>
            rw [bnd_ok et] at e2
            refine ⟨b, s5, rfl, fun w5 H5 J5 l5 => ?_⟩
            have wp : ∀ {w6 : Wd} {s6 : S} {H6 : Hp}, SR g (enS w2 s2 H2) w6 s6 σ4 H6 → SR g n w6 ⟨wipeL s6.sl vs, s6.hs⟩ (wipe σ vs) H6 := fun {w6 s6 H6} J6 => by
              have z := (J2.outof J6).wiped vs rfl
              rw [hw4] at z
              exact z
            have fp : ∀ {w6 : Wd} {s6 : S} {H6 : Hp}, SR g (enS w2 s2 H2) w6 s6 σ4 H6 → Frh n w6 ⟨wipeL s6.sl vs, s6.hs⟩ H6 Dp (.lst ys) := fun {w6 s6 H6} J6 => by
              have z := Frh.carry J2 fr2 J6
              refine ⟨z.at_, z.F, fun q hq => z.ne q ?_, z.en⟩
              cases q with
              | slot i =>
                obtain ⟨l, e, o⟩ := hq
                exact ⟨l, (wipeL_some e).1, o⟩
              | cell k => exact hq
              | fld k j => exact hq
            cases b with
            | true =>
              show te σ4 H5 _
              rw [if_pos rfl] at e2
              cases zl : lenOk acc.length with
              | false =>
                rw [zl] at e2
                cases e2
              | true =>
                rw [zl, if_pos rfl] at e2
                refine he (enS w2 s2 H2) w5 s5 σ4 H5 _ J5 (Out.okD ?_)
                cases ee : me s5 with
                | none =>
                  unfold bnd at e2
                  rw [ee] at e2
                  cases e2
                | some r =>
                  cases r with
                  | exc c z =>
                    rw [bnd_exc ee] at e2
                    cases e2
                  | ok yd s6 =>
                    rw [bnd_ok ee] at e2
                    refine ⟨yd, s6, rfl, fun yv w6 H6 J6 l6 f6 => ?_⟩
                    have fr6 := fp J6
                    have L6 : Le w2.F w6.F w2.io w6.io := ((l3.trans l4).trans l5).trans l6
                    obtain ⟨J7, fr7⟩ := (wp J6).updU (u' := .lst (ys ++ [yv])) fr6
                    refine ⟨ys, fr6.at_, ?_, w6, _, ys ++ [yv], acc ++ [yd], J7, l2.trans L6, fr7, (FVs.mono L6 _ _ fa2).append (.cons f6 .nil), e2⟩
                    rw [← fa2.len]
                    have : acc.length ≤ 100000 := of_decide_eq_true zl
                    rw [sizeLine_eq]
                    omega
            | false =>
              rw [if_neg Bool.false_ne_true] at e2
              exact ⟨w5, _, ys, acc, wp J5, l2.trans ((l3.trans l4).trans l5), fp J5, FVs.mono ((l3.trans l4).trans l5) _ _ fa2, e2⟩
  · rintro H2 ⟨w2, s2, ys, acc, J2, l2, fr2, fa2, e2⟩
    rw [List.drop_length] at e2
    have e2 : some (R.ok acc s2) = some (.ok acc' s') := e2
    cases e2
    have J3 := I1.reslot J2 l2
    refine hQ Dp ys w2 H2 J3 (l1.trans l2) ⟨fr2.at_, fr2.F, fun q hq => fr2.ne q ?_, fr2.en⟩ fa2
    cases q with
    | slot i =>
      obtain ⟨l, e, o⟩ := hq
      obtain ⟨d, rfl, _⟩ := keepV_some e
      exact o.elim
    | cell k => exact hq
    | fld k j => exact hq
end
end Mi

set_option linter.all false
set_option maxRecDepth 100000
set_option maxHeartbeats 4000000
/-! Mi: targets, chains, f-strings, cells' operations, dicts. -/
namespace Mi
open PySem PySem.Spec PyProof.Rows L2
section
variable {g : G} {n : En} {w w' : Wd} {s s' : S} {σ σ' : L2.St} {H H' : Hp} {p : Addr} {W : WX} {X : Cx}

/-! ### targets -/
def RGs (g : G) (gt : TGs) (f : List D → M Unit) : Prop := ∀ n w s σ H vs ds Q, SR g n w s σ H → FVs g w.F w.io ds vs → PostG g n w Q (f ds s) → gt vs σ H Q
def gNilM : List D → M Unit := fun ds => match ds with
  | [] => ret ()
  | _ => stuck
def gConsM (f : D → M Unit) (r : List D → M Unit) : List D → M Unit := fun ds => match ds with
  | d :: t => bnd (f d) fun _ => r t
  | [] => stuck
def gTupM (k : Nat) (r : List D → M Unit) : D → M Unit := fun d => match d with
  | .tup ds => if ds.length = k then r ds else stuck
  | _ => stuck
theorem rgs_nil : RGs g gNil gNilM := by
  intro n w s σ H vs ds Q I f h
  cases ds with
  | nil =>
    have e : vs = [] := f
    subst e
    exact ⟨rfl, h w σ H I (Le.refl _ _)⟩
  | cons d t => exact h.elim
theorem rgs_cons {t : TG} {u : TGs} {f : D → M Unit} {r : List D → M Unit} (h1 : RG g t f) (hx : NoX f) (h2 : RGs g u r) : RGs g (gCons t u) (gConsM f r) := by
  intro n w s σ H vs ds Q I fv h
  cases ds with
  | nil => exact h.elim
  | cons d ds =>
    obtain ⟨v, vr, rfl, k1, k2⟩ := fv
    refine ⟨v, vr, rfl, h1 n w s σ H v d _ I k1 ?_⟩
    have h : PostG g n w Q (bnd (f d) (fun _ => r ds) s) := h
    unfold bnd at h
    cases e : f d s with
    | none =>
      rw [e] at h
      exact h
    | some z =>
      cases z with
      | exc c s' => exact (hx _ _ _ _ e).elim
      | ok u s' =>
        rw [e] at h
        intro w1 σ1 H1 I1 l1
        refine h2 n w1 s' σ1 H1 vr ds Q I1 (FVs.mono l1 _ _ k2) ?_
        have h : PostG g n w Q (r ds s') := h
        cases e2 : r ds s' with
        | none =>
          rw [e2] at h
          exact h
        | some z =>
          rw [e2] at h
          cases z with
          | exc c s2 => exact h
          | ok u2 s2 => exact fun w2 σ2 H2 I2 l2 => h w2 σ2 H2 I2 (l1.trans l2)
theorem rg_tup {k : Nat} {t : TGs} {r : List D → M Unit} (h : RGs g t r) : RG g (gTup g.K k t) (gTupM k r) := by
  intro n w s σ H x d Q I f hq
  cases d with
  | tup ds =>
    obtain ⟨a, vs, rfl, k1, k2⟩ := f
    have hq : PostG g n w Q ((if ds.length = k then r ds else stuck) s) := hq
    by_cases e : ds.length = k
    · rw [if_pos e] at hq
      exact ⟨a, vs, rfl, sqT_sub I.sub k1, by rw [← k2.len]; exact e, h n w s σ H vs ds Q I k2 hq⟩
    · rw [if_neg e] at hq
      exact hq.elim
  | _ => exact hq.elim
def NoXs (f : List D → M Unit) : Prop := ∀ d s c s', f d s ≠ some (.exc c s')
theorem noxs_nil : NoXs gNilM := fun ds s c s' h => by
  cases ds <;> cases h
theorem noxs_cons {f : D → M Unit} {r : List D → M Unit} (h1 : NoX f) (h2 : NoXs r) : NoXs (gConsM f r) := fun ds s c s' h => by
  cases ds with
  | nil => cases h
  | cons d t =>
    have h : bnd (f d) (fun _ => r t) s = some (.exc c s') := h
    unfold bnd at h
    cases e : f d s with
    | none =>
      rw [e] at h
      cases h
    | some z =>
      rw [e] at h
      cases z with
      | exc c2 s2 => exact h1 _ _ _ _ e
      | ok u s2 => exact h2 _ _ _ _ h
theorem nox_tup {k : Nat} {r : List D → M Unit} (h : NoXs r) : NoX (gTupM k r) := fun d s c s' e => by
  cases d with
  | tup ds =>
    have e : (if ds.length = k then r ds else stuck) s = some (.exc c s') := e
    split at e
    · exact h _ _ _ _ e
    · cases e
  | _ => cases e
theorem tg_slot {i : Nat} {vs : List Nat} (h : i ∈ vs) : TgOk (gName i) vs := fun v σ H Q k => by
  have e : wipe (σ.set i (some v)) vs = wipe σ vs := wipe_set h
  exact ⟨e, k e⟩
def TgsOk (gt : TGs) (vs : List Nat) : Prop := ∀ xs σ H (Q : L2.St → Hp → Prop), (gt xs σ H fun σ2 H2 => wipe σ2 vs = wipe σ vs → Q σ2 H2) → gt xs σ H fun σ2 H2 => wipe σ2 vs = wipe σ vs ∧ Q σ2 H2
theorem tgs_nil {vs : List Nat} : TgsOk gNil vs := fun xs σ H Q k => ⟨k.1, rfl, k.2 rfl⟩
theorem tgs_cons {t : TG} {u : TGs} {vs : List Nat} (h1 : TgOk t vs) (h2 : TgsOk u vs) (m1 : ∀ v σ H (Q Q' : L2.St → Hp → Prop), (∀ a b, Q a b → Q' a b) → t v σ H Q → t v σ H Q') (m2 : ∀ v σ H (Q Q' : L2.St → Hp → Prop), (∀ a b, Q a b → Q' a b) → u v σ H Q → u v σ H Q') : TgsOk (gCons t u) vs := fun xs σ H Q k => by
  obtain ⟨v, r, e, k⟩ := k
  refine ⟨v, r, e, ?_⟩
  have k2 := h1 v σ H (fun σ1 H1 => u r σ1 H1 fun σ2 H2 => wipe σ2 vs = wipe σ vs → Q σ2 H2) (m1 _ _ _ _ _ (fun a b z _ => z) k)
  refine m1 _ _ _ _ _ (fun σ1 H1 z => ?_) k2
  obtain ⟨e1, z⟩ := z
  have k3 := h2 r σ1 H1 Q (m2 _ _ _ _ _ (fun a b y hy => y (by rw [hy, e1])) z)
  exact m2 _ _ _ _ _ (fun a b y => ⟨by rw [y.1, e1], y.2⟩) k3

/-! ### chains -/
def eChain (f f' : D → D → M D) (a b c : M D) : M D := bnd a fun x => bnd b fun y => bnd (f x y) fun z => match z with
  | .bl true => bnd c fun u => f' y u
  | .bl false => ret (.bl false)
  | _ => stuck
theorem re_chain {r r' : R2} {f f' : D → D → M D} {ta tb tc : TE} {ma mb mc : M D} (ha : RE g W ta ma) (hb : RE g W tb mb) (hc : RE g W tc mc) (hr : RR2 g W r f) (hr' : RR2 g W r' f') : RE g W (tChain r r' ta tb tc) (eChain f f' ma mb mc) := by
  intro n w s σ H Q I h
  refine ha n w s σ H _ I (h.bnd.mono fun d s1 h1 x w1 H1 I1 l1 f1 => ?_)
  refine hb n w1 s1 σ H1 _ I1 ((Out.le l1 h1.bnd).mono fun e s2 h2 y w2 H2 I2 l2 f2 => ?_)
  have L2 := l1.trans l2
  refine hr n w2 s2 σ H2 x y d e _ I2 (FV.mono l2 _ _ f1) f2 ((Out.le L2 h2.bnd).mono fun z s3 h3 zv w3 H3 I3 l3 f3 => ?_)
  have L3 := L2.trans l3
  cases z with
  | bl b =>
    refine ⟨b, f3, ?_⟩
    cases b with
    | true =>
      rw [if_pos rfl]
      have h3 : Out g n w σ W (bnd mc (fun u => f' e u) s3) (PostE g n w σ Q) := h3
      refine hc n w3 s3 σ H3 _ I3 ((Out.le L3 h3.bnd).mono fun u s4 h4 uv w4 H4 I4 l4 f4 => ?_)
      have L4 := L3.trans l4
      exact hr' n w4 s4 σ H4 y uv e u Q I4 (FV.mono (l3.trans l4) _ _ f2) f4 ((Out.le L4 h4).mono fun _ _ k => k.le L4)
    | false =>
      rw [if_neg Bool.false_ne_true]
      exact h3 _ w3 H3 I3 L3 rfl
  | _ => exact h3.elim

/-! ### f-strings -/
def oFmt : D → Option Str
  | .str z => if lenOk z.length then some z else none
  | .int i => if decide (i.natAbs.log2 < 1920) then some ((toString i : String) : Str) else none
  | _ => none
def eFmt (m : M D) : M D := bnd m fun d => lft ((oFmt d).map .str)
theorem re_fmt {te : TE} {me : M D} (h : RE g W te me) : RE g W (tFmt te) (eFmt me) := by
  intro n w s σ H Q I hq
  refine h n w s σ H _ I (hq.bnd.mono fun d s1 h1 v w1 H1 I1 l1 f1 => ?_)
  obtain ⟨z, e, h2⟩ := h1.lft
  obtain ⟨y, e1, e2⟩ := Option.map_eq_some_iff.mp e
  subst e2
  cases d with
  | str y' =>
    have e1 : (if lenOk y'.length then some y' else none) = some y := e1
    cases c : lenOk y'.length with
    | false =>
      rw [c] at e1
      cases e1
    | true =>
      rw [c] at e1
      cases e1
      exact .inl ⟨_, f1, lenOk_of c, h2 _ w1 H1 I1 l1 rfl⟩
  | int i =>
    have e1 : (if decide (i.natAbs.log2 < 1920) then some ((toString i : String) : Str) else none) = some y := e1
    cases c : decide (i.natAbs.log2 < 1920) with
    | false =>
      rw [c] at e1
      cases e1
    | true =>
      rw [c] at e1
      cases e1
      exact .inr ⟨i, f1, of_decide_eq_true c, h2 _ w1 H1 I1 l1 rfl⟩
  | _ => cases e1
def jsM : List (M D) → Str → M D
  | [], acc => ret (.str acc)
  | m :: ms, acc => bnd m fun d => bnd (lft d.asS) fun y => if lenOk (acc ++ y).length then jsM ms (acc ++ y) else stuck
inductive RJs (g : G) (W : WX) : List TE → List (M D) → Prop where
  | nil : RJs g W [] []
  | cons {t : TE} {m : M D} {ts : List TE} {ms : List (M D)} (h : RE g W t m) (r : RJs g W ts ms) : RJs g W (t :: ts) (m :: ms)
theorem rjs_run {ts : List TE} {ms : List (M D)} (h : RJs g W ts ms) : ∀ {acc : Str} {n : En} {w : Wd} {s : S} {σ : L2.St} {H : Hp} {Q : VK}, SR g n w s σ H → Out g n w σ W (jsM ms acc s) (PostE g n w σ Q) → tJs ts acc σ H fun out H1 => Q (.str out) H1 := by
  induction h with
  | nil => exact fun I h => h _ _ _ I (Le.refl _ _) rfl
  | @cons t m ts ms h r ih =>
    intro acc n w s σ H Q I hq
    have hq : Out g n w σ W (bnd m (fun d => bnd (lft d.asS) fun y => if lenOk (acc ++ y).length then jsM ms (acc ++ y) else stuck) s) (PostE g n w σ Q) := hq
    refine h n w s σ H _ I (hq.bnd.mono fun d s1 h1 v w1 H1 I1 l1 f1 => ?_)
    obtain ⟨y, e, h2⟩ := h1.bnd.lft
    rw [asS_eq e] at f1
    refine ⟨y, f1, ?_⟩
    cases c : lenOk (acc ++ y).length with
    | false =>
      rw [c] at h2
      exact h2.elim
    | true =>
      rw [c, if_pos rfl] at h2
      exact ⟨lenOk_of c, ih I1 ((Out.le l1 h2).mono fun _ _ k => k.le l1)⟩
def eJs (ms : List (M D)) : M D := jsM ms Str.empty
theorem re_js {ts : List TE} {ms : List (M D)} (h : RJs g W ts ms) : RE g W (fun σ H Q => tJs ts Str.empty σ H fun out H1 => Q (.str out) H1) (eJs ms) := fun n w s σ H Q I hq => rjs_run h I hq

/-! ### dicts -/
def replD (ks : List Key) (ds : List D) (k : Key) (d : D) : List D := List.zipWith (fun a e => if a = k then d else e) ks ds
def putD (ks : List Key) (ds : List D) (k : Key) (d : D) : List Key × List D := if (ks.any fun a => decide (a = k)) then (ks, replD ks ds k d) else (ks ++ [k], ds ++ [d])
theorem repl_of {F : Hp} {io : List Addr} {k : Key} {d : D} {v : V} (hd : FV g F io d v) : ∀ {ks : List Key} {ds : List D} {vs : List V}, FVs g F io ds vs → ks.length = ds.length →
    ∃ vs', (ks.zip vs).map (fun kv => if kv.1 = k then (kv.1, v) else kv) = ks.zip vs' ∧ FVs g F io (replD ks ds k d) vs' ∧ ks.length = (replD ks ds k d).length
  | [], [], vs, h, _ => by
    have e : vs = [] := h
    subst e
    exact ⟨[], rfl, rfl, rfl⟩
  | [], _ :: _, _, _, hl => by cases hl
  | _ :: _, [], _, _, hl => by cases hl
  | a :: ks, e :: ds, _, h, hl => by
    obtain ⟨u, r, rfl, h1, h2⟩ := h
    obtain ⟨r', e1, e2, e3⟩ := repl_of hd (ks := ks) h2 (by simpa using hl)
    by_cases hk : a = k
    · refine ⟨v :: r', ?_, ?_, ?_⟩
      · rw [List.zip_cons_cons, List.map_cons, List.zip_cons_cons, e1, if_pos hk]
      · show FVs g F io ((if a = k then d else e) :: replD ks ds k d) (v :: r')
        rw [if_pos hk]
        exact .cons hd e2
      · show ks.length + 1 = (replD ks ds k d).length + 1
        rw [← e3]
    · refine ⟨u :: r', ?_, ?_, ?_⟩
      · rw [List.zip_cons_cons, List.map_cons, List.zip_cons_cons, e1, if_neg hk]
      · show FVs g F io ((if a = k then d else e) :: replD ks ds k d) (u :: r')
        rw [if_neg hk]
        exact .cons h1 e2
      · show ks.length + 1 = (replD ks ds k d).length + 1
        rw [← e3]
theorem zip_snoc {α β : Type} : ∀ {l : List α} {m : List β} {a : α} {b : β}, l.length = m.length → (l ++ [a]).zip (m ++ [b]) = l.zip m ++ [(a, b)]
  | [], [], _, _, _ => rfl
  | [], _ :: _, _, _, h => by cases h
  | _ :: _, [], _, _, h => by cases h
  | x :: l, y :: m, a, b, h => by
    show (x, y) :: (l ++ [a]).zip (m ++ [b]) = (x, y) :: (l.zip m ++ [(a, b)])
    rw [zip_snoc (by simpa using h)]
theorem any_keys {α : Type} [DecidableEq α] {β : Type} (k : α) : ∀ {ks : List α} {vs : List β}, ks.length = vs.length → ((ks.zip vs).any fun kv => decide (kv.1 = k)) = ks.any fun a => decide (a = k)
  | [], [], _ => rfl
  | [], _ :: _, h => by cases h
  | _ :: _, [], h => by cases h
  | a :: ks, b :: vs, h => by
    rw [List.zip_cons_cons, List.any_cons, any_keys k (ks := ks) (by simpa using h), List.any_cons]
theorem put_of {F : Hp} {io : List Addr} {k : Key} {d : D} {v : V} (hd : FV g F io d v) {ks : List Key} {ds : List D} {vs : List V} (h : FVs g F io ds vs) (hl : ks.length = ds.length) :
    ∃ vs', putK (ks.zip vs) k v = (putD ks ds k d).1.zip vs' ∧ FVs g F io (putD ks ds k d).2 vs' ∧ (putD ks ds k d).1.length = (putD ks ds k d).2.length := by
  have hv : ks.length = vs.length := hl.trans h.len
  unfold putK putD
  rw [any_keys k hv]
  cases hk : (ks.any fun a => decide (a = k)) with
  | true =>
    rw [if_pos rfl, if_pos rfl]
    exact repl_of hd h hl
  | false =>
    rw [if_neg Bool.false_ne_true, if_neg Bool.false_ne_true]
    refine ⟨vs ++ [v], (zip_snoc hv).symm, h.append (.cons hd .nil), ?_⟩
    rw [List.length_append, List.length_append, hl]
    rfl
def dropDs : List Key → List D → Key → List D
  | a :: ks, e :: ds, k => if a = k then dropDs ks ds k else e :: dropDs ks ds k
  | _, _, _ => []
def dropKs (ks : List Key) (k : Key) : List Key := ks.filter fun a => decide (a ≠ k)
theorem drop_of {F : Hp} {io : List Addr} {k : Key} : ∀ {ks : List Key} {ds : List D} {vs : List V}, FVs g F io ds vs → ks.length = ds.length →
    ∃ vs', dropK (ks.zip vs) k = (dropKs ks k).zip vs' ∧ FVs g F io (dropDs ks ds k) vs' ∧ (dropKs ks k).length = (dropDs ks ds k).length
  | [], [], vs, h, _ => by
    have e : vs = [] := h
    subst e
    exact ⟨[], rfl, rfl, rfl⟩
  | [], _ :: _, _, _, hl => by cases hl
  | _ :: _, [], _, _, hl => by cases hl
  | a :: ks, e :: ds, _, h, hl => by
    obtain ⟨u, r, rfl, h1, h2⟩ := h
    obtain ⟨r', e1, e2, e3⟩ := drop_of (k := k) (ks := ks) h2 (by simpa using hl)
    unfold dropK dropKs at e1 ⊢
    unfold dropKs at e3
    by_cases hk : a = k
    · refine ⟨r', ?_, ?_, ?_⟩
      · rw [List.zip_cons_cons, List.filter_cons, List.filter_cons, if_neg (by simp [hk]), if_neg (by simp [hk])]
        exact e1
      · show FVs g F io (if a = k then dropDs ks ds k else e :: dropDs ks ds k) r'
        rw [if_pos hk]
        exact e2
      · show (List.filter _ (a :: ks)).length = (if a = k then dropDs ks ds k else e :: dropDs ks ds k).length
        rw [List.filter_cons, if_neg (by simp [hk]), if_pos hk]
        exact e3
    · refine ⟨u :: r', ?_, ?_, ?_⟩
      · rw [List.zip_cons_cons, List.filter_cons, List.filter_cons, if_pos (by simp [hk]), if_pos (by simp [hk]), List.zip_cons_cons]
        exact congrArg _ e1
      · show FVs g F io (if a = k then dropDs ks ds k else e :: dropDs ks ds k) (u :: r')
        rw [if_neg hk]
        exact .cons h1 e2
      · show (List.filter _ (a :: ks)).length = (if a = k then dropDs ks ds k else e :: dropDs ks ds k).length
        rw [List.filter_cons, if_pos (by simp [hk]), if_neg hk, List.length_cons, List.length_cons, e3]

/-! ### cells -/
/-- a new list, as a cell -/
def eNewL (m : M (List D)) : M D := bnd m fun ds s => some (.ok (.ref s.hs.length) ⟨s.sl, s.hs ++ [.lst ds]⟩)
theorem io_new {io : List Addr} {p : Addr} {k : Nat} (h : io.length = k) : (io ++ [p])[k]? = some p := by
  subst h
  rw [List.getElem?_append_right (Nat.le_refl _), Nat.sub_self]
  rfl
theorem re_newL {t : TE} {m : M (List D)} (h : RL g W t m) : RE g W t (eNewL m) := by
  intro n w s σ H Q I hq
  refine h n w s σ H _ I (hq.bnd.mono fun ds s1 h1 p vs w1 H1 I1 l1 fr f1 => ?_)
  have hn := io_new (p := p) I1.len
  have le0 : Le w1.F w1.F w1.io (w1.io ++ [p]) := ⟨fun _ _ _ h => h, fun _ _ _ _ h => h, fun k a e => by
    rw [List.getElem?_append_left (List.getElem?_eq_some_iff.mp e).1]
    exact e⟩
  obtain ⟨J, le⟩ := I1.cell (o := .lst ds) fr trivial ⟨p, vs, hn, fr.at_, FVs.mono le0 _ _ f1⟩
  exact h1 _ _ _ J (l1.trans le) ⟨p, rfl, hn⟩
/-- a new dict -/
def eNewD (ks : List Key) : M (List D) → M D := fun m => bnd m fun ds s => if ks.length = ds.length then some (.ok (.ref s.hs.length) ⟨s.sl, s.hs ++ [.dic ks ds]⟩) else none
theorem re_dnew : RE g W tDNewK (eNewD [] (ret [])) := by
  intro n w s σ H Q I hq p hp
  obtain ⟨I1, fr⟩ := I.newL (u := .dK []) hp
  have hn := io_new (p := p) I1.len
  obtain ⟨J, le⟩ := I1.cell (o := .dic [] []) fr trivial ⟨p, [], hn, fr.at_, rfl, .nil⟩
  have hq : PostE g n w σ Q (.ref s.hs.length) ⟨s.sl, s.hs ++ [.dic [] []]⟩ := hq
  exact hq _ _ _ J le ⟨p, rfl, hn⟩
/-- a cell's contents become a value -/
def fzO (hs : HS) (k : Nat) : Option D := match hs[k]? with
  | some (.lst ds) => some (.lst ds)
  | some (.dic ks ds) => some (.dic ks ds)
  | _ => none
def eFz (m : M D) : M D := bnd m fun d => match d with
  | .ref k => fun s => match fzO s.hs k with
    | some z => some (.ok z ⟨s.sl, s.hs.set k .dead⟩)
    | none => none
  | d => ret d
theorem fz_of (I : SR g n w s σ H) {k : Nat} {z : D} {v : V} (hv : FV g w.F w.io (.ref k) v) (e : fzO s.hs k = some z) :
    ∃ w', SR g n w' ⟨s.sl, s.hs.set k .dead⟩ σ H ∧ Le w.F w'.F w.io w'.io ∧ FV g w'.F w'.io z v := by
  obtain ⟨a, rfl, ea⟩ := hv
  unfold fzO at e
  split at e
  · rename_i ds e1
    cases e
    obtain ⟨a', vs, h1, h2, h3⟩ := I.objs k _ e1
    rw [ea] at h1
    cases h1
    obtain ⟨J, le⟩ := I.fz e1 (by intro z; cases z) ea h2
    exact ⟨_, J, le, a, vs, rfl, SqL.of upd_same, FVs.mono le _ _ h3⟩
  · rename_i ks ds e1
    cases e
    obtain ⟨a', vs, h1, h2, h3, h4⟩ := I.objs k _ e1
    rw [ea] at h1
    cases h1
    obtain ⟨J, le⟩ := I.fz e1 (by intro z; cases z) ea h2
    exact ⟨_, J, le, a, vs, rfl, .inl upd_same, h3, FVs.mono le _ _ h4⟩
  · cases e
theorem re_fz {t : TE} {m : M D} (h : RE g W t m) : RE g W t (eFz m) := by
  intro n w s σ H Q I hq
  refine h n w s σ H _ I (hq.bnd.mono fun d s1 h1 v w1 H1 I1 l1 f1 => ?_)
  cases d with
  | ref k =>
    have h1 : Out g n w σ W (match fzO s1.hs k with
      | some z => some (.ok z ⟨s1.sl, s1.hs.set k .dead⟩)
      | none => none) (PostE g n w σ Q) := h1
    cases e : fzO s1.hs k with
    | none =>
      rw [e] at h1
      exact h1.elim
    | some z =>
      rw [e] at h1
      obtain ⟨w2, J, le, f2⟩ := fz_of I1 f1 e
      exact h1 v w2 H1 J (l1.trans le) f2
  | non => exact h1 v w1 H1 I1 l1 f1
  | bl _ => exact h1 v w1 H1 I1 l1 f1
  | int _ => exact h1 v w1 H1 I1 l1 f1
  | str _ => exact h1 v w1 H1 I1 l1 f1
  | tup _ => exact h1 v w1 H1 I1 l1 f1
  | lst _ => exact h1 v w1 H1 I1 l1 f1
  | dic _ _ => exact h1 v w1 H1 I1 l1 f1
  | fo _ _ _ => exact h1 v w1 H1 I1 l1 f1
  | exc _ => exact h1 v w1 H1 I1 l1 f1
/-- a variable's cell becomes its value -/
def eFzV (i : Nat) : M D := fun s => match s.sl[i]? with
  | some (some (.v (.ref k))) => match fzO s.hs k with
    | some z => some (.ok z ⟨s.sl.set i (some (.v z)), s.hs.set k .dead⟩)
    | none => none
  | some (some (.v d)) => some (.ok d s)
  | _ => none
theorem re_fzV (i : Nat) : RE g W (tVar i) (eFzV i) := by
  intro n w s σ H Q I h
  unfold eFzV at h
  split at h
  · rename_i k e
    obtain ⟨x, e1, e2⟩ := I.slots i _ e
    refine ⟨x, e1, ?_⟩
    cases e3 : fzO s.hs k with
    | none =>
      rw [e3] at h
      exact h.elim
    | some z =>
      rw [e3] at h
      obtain ⟨w2, J, le, f2⟩ := fz_of I e2 e3
      have J2 := J.setv (i := i) f2
      have es : σ.set i (some x) = σ := by
        apply List.ext_getElem?
        intro j
        by_cases hj : i = j
        · subst hj
          have hi := (List.getElem?_eq_some_iff.mp e1).1
          rw [List.getElem?_set_self hi, e1]
        · rw [List.getElem?_set_ne hj]
      rw [es] at J2
      exact h x w2 H J2 le f2
  · rename_i d e
    obtain ⟨x, e1, e2⟩ := I.slots i _ e
    exact ⟨x, e1, h x w H I (Le.refl _ _) e2⟩
  · exact h.elim

/-! a method of a cell -/
def tyOk (T : String) (hs : HS) (d : D) : Bool := match d with
  | .ref k => match hs[k]? with
    | some (.lst _) => decide (T = "list")
    | some (.dic _ _) => decide (T = "dict")
    | _ => false
  | .lst _ => decide (T = "list")
  | .str _ => decide (T = "str")
  | _ => false
theorem tyOk_of (I : SR g n w s σ H) {d : D} {v : V} {T : String} (hv : FV g w.F w.io d v) (h : tyOk T s.hs d = true) : tyV g.K T v H := by
  unfold tyOk at h
  split at h
  · rename_i k
    obtain ⟨a, rfl, ea⟩ := hv
    split at h
    · rename_i ds e1
      obtain ⟨a', vs, h1, h2, h3⟩ := I.objs k _ e1
      rw [ea] at h1
      cases h1
      exact .inl ⟨of_decide_eq_true h, vs, SqL.of h2⟩
    · rename_i ks ds e1
      obtain ⟨a', vs, h1, h2, h3, h4⟩ := I.objs k _ e1
      rw [ea] at h1
      cases h1
      exact .inr (.inr (.inl ⟨of_decide_eq_true h, .inl ⟨_, h2⟩⟩))
    · cases h
  · obtain ⟨a, vs, rfl, h1, h2⟩ := hv
    exact .inl ⟨of_decide_eq_true h, vs, sqL_sub I.sub h1⟩
  · have e : v = .str _ := hv
    subst e
    show T = "str"
    exact of_decide_eq_true h
  · cases h
def RMt (g : G) (W : WX) (r : V → List V → Hp → VK → Prop) (f : D → List D → M D) : Prop := ∀ n w s σ H x xs d ds Q, SR g n w s σ H → FV g w.F w.io d x → FVs g w.F w.io ds xs → Out g n w σ W (f d ds s) (PostE g n w σ Q) → r x xs H Q
def eBM (T : String) (f : D → List D → M D) (a : M D) (m : M (List D)) : M D := bnd a fun d s => if tyOk T s.hs d then bnd m (fun ds => f d ds) s else none
theorem re_bm {T : String} {r : V → List V → Hp → VK → Prop} {f : D → List D → M D} {ta : TE} {tr : TA} {ma : M D} {mr : M (List D)} (hr : RMt g W r f) (ha : RE g W ta ma) (hm : RA g W tr mr) : RE g W (tBM g.K T r ta tr) (eBM T f ma mr) := by
  intro n w s σ H Q I h
  refine ha n w s σ H _ I (h.bnd.mono fun d s1 h1 x w1 H1 I1 l1 f1 => ?_)
  cases c : tyOk T s1.hs d with
  | false =>
    rw [c] at h1
    exact h1.elim
  | true =>
    rw [c, if_pos rfl] at h1
    refine ⟨tyOk_of I1 f1 c, ?_⟩
    refine hm n w1 s1 σ H1 _ I1 ((Out.le l1 h1.bnd).mono fun ds s2 h2 xs w2 H2 I2 l2 f2 => ?_)
    exact hr n w2 s2 σ H2 x xs d ds Q I2 (FV.mono l2 _ _ f1) f2 ((Out.le (l1.trans l2) h2).mono fun _ _ k => k.le (l1.trans l2))
end
end Mi

set_option linter.all false
set_option maxRecDepth 100000
set_option maxHeartbeats 4000000
/-! Mi: list methods, subscript stores, dict displays, pairs of names, truth. -/
namespace Mi
open PySem PySem.Spec PyProof.Rows L2
section
variable {g : G} {n : En} {w w' : Wd} {s s' : S} {σ σ' : L2.St} {H H' : Hp} {p : Addr} {W : WX} {X : Cx}

/-! ### methods of lists -/
def lstAt (hs : HS) : D → Option (Nat × List D)
  | .ref k => match hs[k]? with
    | some (.lst ds) => some (k, ds)
    | _ => none
  | _ => none
def dicAt (hs : HS) : D → Option (Nat × List Key × List D)
  | .ref k => match hs[k]? with
    | some (.dic ks ds) => some (k, ks, ds)
    | _ => none
  | _ => none
theorem lstAt_of (I : SR g n w s σ H) {d : D} {v : V} {k : Nat} {ds : List D} (hv : FV g w.F w.io d v) (e : lstAt s.hs d = some (k, ds)) :
    ∃ a vs, v = .ref a ∧ w.io[k]? = some a ∧ s.hs[k]? = some (.lst ds) ∧ H a = some (.lst vs) ∧ FVs g w.F w.io ds vs := by
  unfold lstAt at e
  split at e
  · rename_i j
    split at e
    · rename_i ds' e1
      cases e
      obtain ⟨a, rfl, ea⟩ := hv
      obtain ⟨a', vs, h1, h2, h3⟩ := I.objs k _ e1
      rw [ea] at h1
      cases h1
      exact ⟨a, vs, rfl, ea, e1, h2, h3⟩
    · cases e
  · cases e
theorem dicAt_of (I : SR g n w s σ H) {d : D} {v : V} {k : Nat} {ks : List Key} {ds : List D} (hv : FV g w.F w.io d v) (e : dicAt s.hs d = some (k, ks, ds)) :
    ∃ a vs, v = .ref a ∧ w.io[k]? = some a ∧ s.hs[k]? = some (.dic ks ds) ∧ H a = some (.dK (ks.zip vs)) ∧ ks.length = ds.length ∧ FVs g w.F w.io ds vs := by
  unfold dicAt at e
  split at e
  · rename_i j
    split at e
    · rename_i ks' ds' e1
      cases e
      obtain ⟨a, rfl, ea⟩ := hv
      obtain ⟨a', vs, h1, h2, h3, h4⟩ := I.objs k _ e1
      rw [ea] at h1
      cases h1
      exact ⟨a, vs, rfl, ea, e1, h2, h3, h4⟩
    · cases e
  · cases e
/-- the cell k is the list ds from now on -/
def setC (k : Nat) (o : Ob) (d : D) : M D := fun s => some (.ok d ⟨s.sl, s.hs.set k o⟩)
theorem SR.wrL (I : SR g n w s σ H) {k : Nat} {a : Addr} {o' : Ob} {ds : List D} {vs : List V} (e0 : s.hs[k]? = some o') (d0 : o' ≠ .dead) (ea : w.io[k]? = some a) (f : FVs g w.F w.io ds vs) : SR g n w ⟨s.sl, s.hs.set k (.lst ds)⟩ σ (upd H a (.lst vs)) :=
  I.wr (o := .lst ds) e0 d0 ea trivial ⟨a, vs, ea, upd_same, f⟩
theorem SR.wrD (I : SR g n w s σ H) {k : Nat} {a : Addr} {o' : Ob} {ks : List Key} {ds : List D} {vs : List V} (e0 : s.hs[k]? = some o') (d0 : o' ≠ .dead) (ea : w.io[k]? = some a) (hl : ks.length = ds.length) (f : FVs g w.F w.io ds vs) : SR g n w ⟨s.sl, s.hs.set k (.dic ks ds)⟩ σ (upd H a (.dK (ks.zip vs))) :=
  I.wr (o := .dic ks ds) e0 d0 ea trivial ⟨a, vs, ea, upd_same, hl, f⟩
def fAppend (d : D) (xs : List D) : M D := fun s => match lstAt s.hs d, xs with
  | some (k, ds), [y] => if lenOk ds.length then setC k (.lst (ds ++ [y])) .non s else none
  | _, _ => none
theorem lenLt {k : Nat} (h : lenOk k = true) : k < sizeLine := by
  have : k ≤ 100000 := of_decide_eq_true h
  rw [sizeLine_eq]
  omega
theorem rm_append : RMt g W rAppend fAppend := by
  intro n w s σ H x xs d ds Q I hx hxs h
  unfold fAppend at h
  split at h
  · rename_i k cs y e
    obtain ⟨a, vs, rfl, e1, e2, e3, e4⟩ := lstAt_of I hx e
    obtain ⟨v, r, rfl, k1, k2⟩ := hxs
    have k2' : r = [] := k2
    subst k2'
    cases c : lenOk cs.length with
    | false =>
      rw [c] at h
      exact h.elim
    | true =>
      rw [c, if_pos rfl] at h
      refine ⟨a, vs, v, rfl, rfl, e3, by rw [← e4.len]; exact lenLt c, ?_⟩
      exact h .non w _ (I.wrL e2 (by intro z; cases z) e1 (e4.append (.cons k1 .nil))) (Le.refl _ _) rfl
  · exact h.elim
def fPop (d : D) (xs : List D) : M D := fun s => match lstAt s.hs d, xs with
  | some (k, ds), [] => match ds[ds.length - 1]? with
    | some y => setC k (.lst ds.dropLast) y s
    | none => none
  | _, _ => none
theorem FVs.dropLast {F : Hp} {io : List Addr} {ds : List D} {vs : List V} (h : FVs g F io ds vs) : FVs g F io ds.dropLast vs.dropLast := by
  rw [List.dropLast_eq_take, List.dropLast_eq_take, ← h.len]
  exact h.take _
theorem rm_pop : RMt g W rPop fPop := by
  intro n w s σ H x xs d ds Q I hx hxs h
  unfold fPop at h
  split at h
  · rename_i k cs e
    obtain ⟨a, vs, rfl, e1, e2, e3, e4⟩ := lstAt_of I hx e
    have hxs' : xs = [] := hxs
    subst hxs'
    split at h
    · rename_i y ey
      obtain ⟨v, k1, k2⟩ := e4.get ey
      refine ⟨a, vs, v, rfl, rfl, e3, by rw [← e4.len]; exact k1, ?_⟩
      exact h v w _ (I.wrL e2 (by intro z; cases z) e1 e4.dropLast) (Le.refl _ _) k2
    · exact h.elim
  · exact h.elim
/-- extend by a list, or a tuple's .. no: a list -/
def rExtS (K : PySem.W.Frag) : V → List V → Hp → VK → Prop := fun x vs H Q => ∃ l b xs zs, x = .ref l ∧ vs = [.ref b] ∧ H l = some (.lst xs) ∧ SqL K H b zs ∧ xs.length + zs.length ≤ sizeLine ∧ Q .non (upd H l (.lst (xs ++ zs)))

/-! ### subscript stores -/
def setO (hs : HS) (o i v : D) : Option (Nat × Ob) := match lstAt hs o with
  | some (k, ds) => i.asI.bind fun j => (ixN ds.length j).map fun m => (k, .lst (ds.set m v))
  | none => match dicAt hs o with
    | some (k, ks, ds) => if lenOk ks.length then i.key.map fun y => (k, .dic (putD ks ds y v).1 (putD ks ds y v).2) else none
    | none => none
def rSetU : TSet := fun o i v H Q => rSetL o i v H Q ∨ rSetD o i v H Q
theorem set_U (hu : X.A.units + 1 < cLine) : PSet X rSetU := by
  intro pins s σ H o i v ov iv u Q I ro ri rv h
  rcases h with h | h
  · exact set_list pins s σ H o i v ov iv u Q I ro ri rv h
  · exact set_dict hu pins s σ H o i v ov iv u Q I ro ri rv h
theorem setU_of {o i v : D} {ov iv vv : V} {k : Nat} {ob : Ob} {Q : Hp → Prop} (I : SR g n w s σ H) (ho : FV g w.F w.io o ov) (hi : FV g w.F w.io i iv) (hv : FV g w.F w.io v vv) (e : setO s.hs o i v = some (k, ob))
    (q : ∀ H', SR g n w ⟨s.sl, s.hs.set k ob⟩ σ H' → Q H') : rSetU ov iv vv H Q := by
  unfold setO at e
  split at e
  · rename_i k' ds e1
    obtain ⟨a, vs, rfl, h1, h2, h3, h4⟩ := lstAt_of I ho e1
    obtain ⟨j, e2, e3⟩ := Option.bind_eq_some_iff.mp e
    obtain ⟨m, e4, e5⟩ := Option.map_eq_some_iff.mp e3
    cases e5
    rw [asI_eq e2] at hi
    refine .inl ⟨a, vs, j, m, rfl, hi, h3, by rw [← h4.len]; exact e4, ?_⟩
    exact q _ (I.wrL h2 (by intro z; cases z) h1 (h4.set hv m))
  · split at e
    · rename_i k' ks ds e1
      obtain ⟨a, vs, rfl, h1, h2, h3, h5, h4⟩ := dicAt_of I ho e1
      cases c : lenOk ks.length with
      | false =>
        rw [c] at e
        cases e
      | true =>
        rw [c, if_pos rfl] at e
        obtain ⟨y, e2, e3⟩ := Option.map_eq_some_iff.mp e
        cases e3
        obtain ⟨vs', p1, p2, p3⟩ := put_of (k := y) hv h4 h5
        refine .inr ⟨a, _, rfl, .inl ⟨_, y, h3, key_of hi e2, ?_, rfl⟩, ?_⟩
        · have z := lenLt c
          rw [List.length_zip, ← h4.len, ← h5, Nat.min_self]
          exact z
        · rw [p1]
          exact q _ (I.wrD h2 (by intro z; cases z) h1 p3 p2)
    · cases e
def setM (o i v : D) : M Fl := fun s => match setO s.hs o i v with
  | some (k, ob) => some (.ok .nx ⟨s.sl, s.hs.set k ob⟩)
  | none => none
/-- o[i] = e -/
def sSub (mo mi me : M D) : M Fl := bnd me fun v => bnd mo fun o => bnd mi fun i => setM o i v
theorem rs_sub {te to ti : TE} {me mo mi : M D} (he : RE g W te me) (ho : RE g W to mo) (hi : RE g W ti mi) : RS g W (tAsg te (gSub to ti rSetU)) (sSub mo mi me) := by
  intro n w s σ H d I hq
  refine he n w s σ H _ I ((hq.bnd σ).mono fun v s1 h1 vv w1 H1 I1 l1 f1 => ?_)
  refine ho n w1 s1 σ H1 _ I1 ((Out.le l1 (h1.bnd σ)).mono fun o s2 h2 ov w2 H2 I2 l2 f2 => ?_)
  have L2 := l1.trans l2
  refine hi n w2 s2 σ H2 _ I2 ((Out.le L2 (h2.bnd σ)).mono fun i s3 h3 iv w3 H3 I3 l3 f3 => ?_)
  have L3 := L2.trans l3
  unfold setM at h3
  split at h3
  · rename_i k ob e
    exact setU_of I3 (FV.mono l3 _ _ f2) f3 (FV.mono (l2.trans l3) _ _ f1) e fun H' I' => h3 w3 σ H' I' L3
  · exact h3.elim

/-! ### dict displays -/
inductive RPs (g : G) (W : WX) : List (TE × TE) → List (M D × M D) → Prop where
  | nil : RPs g W [] []
  | cons {tk tv : TE} {mk mv : M D} {ts : List (TE × TE)} {ms : List (M D × M D)} (hk : RE g W tk mk) (hv : RE g W tv mv) (r : RPs g W ts ms) : RPs g W ((tk, tv) :: ts) ((mk, mv) :: ms)
def pairsM : List (M D × M D) → M (List (Key × D))
  | [] => ret []
  | (mk, mv) :: r => bnd mk fun k => bnd (lft k.key) fun y => bnd mv fun v => bnd (pairsM r) fun ps => ret ((y, v) :: ps)
def PostP (g : G) (n : En) (w : Wd) (σ : L2.St) (Q : List (V × V) → Hp → Prop) : List (Key × D) → S → Prop := fun ps s' => ∀ vs w' H', SR g n w' s' σ H' → Le w.F w'.F w.io w'.io → ps.length = vs.length → FVs g w'.F w'.io (ps.map (·.2)) vs → Q ((ps.zip vs).map fun q => (kV q.1.1, q.2)) H'
theorem rps_run {ts : List (TE × TE)} {ms : List (M D × M D)} (h : RPs g W ts ms) : ∀ {n : En} {w : Wd} {s : S} {σ : L2.St} {H : Hp} {Q : List (V × V) → Hp → Prop}, SR g n w s σ H → Out g n w σ W (pairsM ms s) (PostP g n w σ Q) → tPairs ts σ H Q := by
  induction h with
  | nil => exact fun {n w s σ H Q} I h => h [] w H I (Le.refl _ _) rfl .nil
  | @cons tk tv mk mv ts ms hk hv r ih =>
    intro n w s σ H Q I hq
    have hq : Out g n w σ W (bnd mk (fun k => bnd (lft k.key) fun y => bnd mv fun v => bnd (pairsM ms) fun ps => ret ((y, v) :: ps)) s) (PostP g n w σ Q) := hq
    refine hk n w s σ H _ I (hq.bnd.mono fun k s1 h1 kv w1 H1 I1 l1 f1 => ?_)
    obtain ⟨y, e, h2⟩ := h1.bnd.lft
    refine hv n w1 s1 σ H1 _ I1 ((Out.le l1 h2.bnd).mono fun v s2 h3 vv w2 H2 I2 l2 f2 => ?_)
    have L2 := l1.trans l2
    refine ih I2 ((Out.le L2 h3.bnd).mono fun ps s3 h4 vs w3 H3 I3 l3 hl f3 => ?_)
    have e1 := key_of f1 e
    have h4 : PostP g n w σ Q ((y, v) :: ps) s3 := h4
    rw [e1]
    exact h4 (vv :: vs) w3 H3 I3 (L2.trans l3) (by rw [List.length_cons, List.length_cons, hl]) (.cons (FV.mono l3 _ _ f2) f3)
/-- the pairs put in, one after another -/
def mergeD : List Key → List D → List (Key × D) → List Key × List D
  | ks, ds, [] => (ks, ds)
  | ks, ds, (k, d) :: r => mergeD (putD ks ds k d).1 (putD ks ds k d).2 r
theorem merge_of {F : Hp} {io : List Addr} : ∀ {ps : List (Key × D)} {us : List V} {ks : List Key} {ds : List D} {vs : List V}, FVs g F io (ps.map (·.2)) us → ps.length = us.length → FVs g F io ds vs → ks.length = ds.length →
    ∃ vs', mergeK (ks.zip vs) ((ps.zip us).map fun q => (q.1.1, q.2)) = (mergeD ks ds ps).1.zip vs' ∧ FVs g F io (mergeD ks ds ps).2 vs' ∧ (mergeD ks ds ps).1.length = (mergeD ks ds ps).2.length
  | [], _, ks, ds, vs, h, hl, f, e => ⟨vs, by simp [mergeK, mergeD], f, e⟩
  | (k, d) :: ps, _, ks, ds, vs, h, hl, f, e => by
    obtain ⟨u, us, rfl, h1, h2⟩ := h
    obtain ⟨vs1, p1, p2, p3⟩ := put_of (k := k) h1 f e
    obtain ⟨vs2, q1, q2, q3⟩ := merge_of (ps := ps) (us := us) h2 (by simpa using hl) p2 p3
    refine ⟨vs2, ?_, q2, q3⟩
    show mergeK (putK (ks.zip vs) k u) ((ps.zip us).map fun q => (q.1.1, q.2)) = _
    rw [p1]
    exact q1
/-- {k: v, ..}, a cell -/
def eDisp (ms : List (M D × M D)) : M D := bnd (pairsM ms) fun ps s => if decide (ps.length ≤ 15) then some (.ok (.ref s.hs.length) ⟨s.sl, s.hs ++ [.dic (mergeD [] [] ps).1 (mergeD [] [] ps).2]⟩) else none
theorem re_disp {ts : List (TE × TE)} {ms : List (M D × M D)} (h : RPs g W ts ms) : RE g W (tDisp ts) (eDisp ms) := by
  intro n w s σ H Q I hq p hp
  obtain ⟨I1, fr⟩ := I.newL (u := .dK []) hp
  -- the pairs' run keeps what nobody knows
  have hq1 : Out g n w σ W (pairsM ms s) fun ps s' => decide (ps.length ≤ 15) = true ∧ PostE g n w σ Q (.ref s'.hs.length) ⟨s'.sl, s'.hs ++ [.dic (mergeD [] [] ps).1 (mergeD [] [] ps).2]⟩ := by
    refine hq.bnd.mono fun ps s' k => ?_
    cases c : decide (ps.length ≤ 15) with
    | false =>
      rw [c] at k
      exact k.elim
    | true =>
      rw [c] at k
      exact ⟨rfl, k⟩
  have hq2 : Out g (enS w s (upd H p (.dK []))) w σ W (pairsM ms s) fun ps s' => decide (ps.length ≤ 15) = true ∧ PostE g n w σ Q (.ref s'.hs.length) ⟨s'.sl, s'.hs ++ [.dic (mergeD [] [] ps).1 (mergeD [] [] ps).2]⟩ := by
    cases e : pairsM ms s with
    | none =>
      rw [e] at hq1
      exact hq1
    | some r =>
      rw [e] at hq1
      cases r with
      | ok a s' => exact hq1
      | exc c s' => exact fun dd w' H' B l => hq1 dd w' H' (I1.outof B) l
  refine rps_run h I1.into (hq2.mono fun ps s2 ⟨c, k⟩ vs w2 H2 B2 l2 hl f2 => ?_)
  have fr2 := Frh.carry I1 fr B2
  have I2 := I1.outof B2
  refine ⟨fr2.at_, (ps.zip vs).map (fun q => (q.1.1, q.2)), by rw [List.map_map]; rfl, ?_, ?_⟩
  · rw [List.length_map, List.length_zip, hl, Nat.min_self, ← hl]
    exact of_decide_eq_true c
  · obtain ⟨vs', m1, m2, m3⟩ := merge_of (ks := []) (ds := []) (vs := []) f2 hl .nil rfl
    have m1' : mergeK [] ((ps.zip vs).map fun q => (q.1.1, q.2)) = (mergeD [] [] ps).1.zip vs' := m1
    rw [m1']
    obtain ⟨I3, fr3⟩ := I2.updU (u' := .dK ((mergeD [] [] ps).1.zip vs')) fr2
    have hn := io_new (p := p) I3.len
    have le0 : Le w2.F w2.F w2.io (w2.io ++ [p]) := ⟨fun _ _ _ h => h, fun _ _ _ _ h => h, fun k a e => by
      rw [List.getElem?_append_left (List.getElem?_eq_some_iff.mp e).1]
      exact e⟩
    obtain ⟨J, le⟩ := I3.cell (o := .dic (mergeD [] [] ps).1 (mergeD [] [] ps).2) fr3 trivial ⟨p, vs', hn, fr3.at_, m3, FVs.mono le0 _ _ m2⟩
    exact k _ _ _ J (l2.trans le) ⟨p, rfl, hn⟩

/-! ### a, b = x, y -/
def sPar (i j : Nat) (m : M (List D)) : M Fl := bnd m fun ds => match ds with
  | [a, b] => bnd (gSlot i a) fun _ => bnd (gSlot j b) fun _ => ret .nx
  | _ => stuck
theorem rs_par {i j : Nat} {ta : TA} {ma : M (List D)} (h : RA g W ta ma) : RS g W (tPar i j ta) (sPar i j ma) := by
  intro n w s σ H d I hq
  refine h n w s σ H _ I ((hq.bnd σ).mono fun ds s1 h1 vs w1 H1 I1 l1 f1 => ?_)
  match ds, h1, f1 with
  | [a, b], h1, f1 =>
    obtain ⟨v, r, rfl, k1, u, r2, rfl, k2, k3⟩ := f1
    have k3' : r2 = [] := k3
    subst k3'
    exact ⟨v, u, rfl, h1 w1 _ H1 ((I1.setv k1).setv k2) l1⟩
  | [], h1, _ => exact h1.elim
  | [_], h1, _ => exact h1.elim
  | _ :: _ :: _ :: _, h1, _ => exact h1.elim

/-! ### truth -/
def truD (hs : HS) : D → Option Bool
  | .non => some false
  | .bl b => some b
  | .int i => some (i != 0)
  | .str y => if lenOk y.length then some ((y.length : Int) != 0) else none
  | .tup ds => some (!ds.isEmpty)
  | .lst ds => some (!ds.isEmpty)
  | .ref k => match hs[k]? with
    | some (.lst ds) => some (!ds.isEmpty)
    | some (.dic ks _) => some (!ks.isEmpty)
    | _ => none
  | _ => none
theorem emp_of {F : Hp} {io : List Addr} {ds : List D} {vs : List V} (h : FVs g F io ds vs) : (!ds.isEmpty) = !vs.isEmpty := by
  cases ds with
  | nil =>
    have e : vs = [] := h
    rw [e]
    rfl
  | cons d ds =>
    obtain ⟨v, r, rfl, _⟩ := h
    rfl
def pTru (m : M D) : M Bool := bnd m fun d s => lft (truD s.hs d) s
theorem rt_truth {ta : TE} {ma : M D} (h : RE g W ta ma) : RT g W (fun σ H Q => ta σ H fun x H' => ∃ k, TruV g.K x H' k ∧ Q k H') (pTru ma) := by
  intro n w s σ H Q I hq
  refine h n w s σ H _ I (hq.bnd.mono fun d s1 h1 v w1 H1 I1 l1 f1 => ?_)
  obtain ⟨b, e, h2⟩ := Out.lft (o := truD s1.hs d) h1
  refine ⟨b, ?_, h2 w1 H1 I1 l1⟩
  cases d with
  | non =>
    cases e
    have z : v = _ := f1
    rw [z]
    rfl
  | bl c =>
    cases e
    have z : v = _ := f1
    rw [z]
    rfl
  | int i =>
    cases e
    have z : v = _ := f1
    rw [z]
    rfl
  | str y =>
    have e : (if lenOk y.length then some ((y.length : Int) != 0) else none) = some b := e
    cases c : lenOk y.length with
    | false =>
      rw [c] at e
      cases e
    | true =>
      rw [c] at e
      cases e
      have z : v = _ := f1
      rw [z]
      exact ⟨lenOk_of c, rfl⟩
  | tup ds =>
    cases e
    obtain ⟨a, vs, rfl, k1, k2⟩ := f1
    exact .inr (.inl ⟨vs, sqT_sub I1.sub k1, emp_of k2⟩)
  | lst ds =>
    cases e
    obtain ⟨a, vs, rfl, k1, k2⟩ := f1
    exact .inl ⟨vs, sqL_sub I1.sub k1, emp_of k2⟩
  | ref k =>
    obtain ⟨a, rfl, ea⟩ := f1
    have e : (match s1.hs[k]? with
      | some (.lst ds) => some (!ds.isEmpty)
      | some (.dic ks _) => some (!ks.isEmpty)
      | _ => none) = some b := e
    split at e
    · rename_i ds e1
      cases e
      obtain ⟨a', vs, h1, h2, h3⟩ := I1.objs k _ e1
      rw [ea] at h1
      cases h1
      exact .inl ⟨vs, SqL.of h2, emp_of h3⟩
    · rename_i ks ds e1
      cases e
      obtain ⟨a', vs, h1, h2, h3, h4⟩ := I1.objs k _ e1
      rw [ea] at h1
      cases h1
      refine .inr (.inr ⟨_, h2, ?_⟩)
      have hl : ks.length = vs.length := h3.trans h4.len
      cases ks with
      | nil => rfl
      | cons k0 ks =>
        cases vs with
        | nil => cases hl
        | cons v0 vs => rfl
    · cases e
  | _ => cases e
end
end Mi

set_option linter.all false
set_option maxRecDepth 100000
set_option maxHeartbeats 4000000
/-! Mi: expressions as data, their readings, their runs. -/
namespace Mi
open PySem PySem.Spec PyProof.Rows L2

inductive Bi where
  | len | abs | max | min | int | str | ord | tuple
  deriving DecidableEq
inductive Sm where
  | part | ends | starts | find | count | split | join
  deriving DecidableEq
inductive Lm where
  | append | pop
  deriving DecidableEq
mutual
inductive Tg where
  | s (i : Nat) | tup (ts : Tgs)
inductive Tgs where
  | nil | cons (t : Tg) (r : Tgs)
end
mutual
inductive E where
  | v (i : Nat) | fv (i : Nat) | int (i : Int) | str (x : Str) | bl (b : Bool) | non | gl (k : Nat)
  | op (o : Operator) (a b : E) | neg (a : E) | not (a : E) | and (es : Es) | or (es : Es)
  | cmp (o : CmpOp) (a b : E) | chain (o p : CmpOp) (a b c : E) | ife (c : T) (a b : E)
  | tup (es : Es) | lst (es : Es) | newl (es : Es)
  | idx (a b : E) | sl (a : E) (lo hi : Oe)
  | call (k n : Nat) (es : Es) | bi (b : Bi) (es : Es) | isi (T : String) (a : E)
  | m1 (m : Sm) (a b : E) | js (es : Js)
  | lc (i : It) (t : Tg) (c : Ot) (e : E) (vs : List (Str × Nat)) | lcN (i : It) (t : Tg) (c : Ot) (e : E) (vs : List (Str × Nat))
  | dnew | disp (ps : Ps) | bm (m : Lm) (a : E) (es : Es) | fz (a : E) | fm (a : E) | wall
inductive Es where
  | nil | cons (e : E) (r : Es)
inductive Oe where
  | no | so (e : E)
inductive Js where
  | nil | txt (x : Str) (r : Js) | fmt (e : E) (r : Js)
inductive Ps where
  | nil | cons (k v : E) (r : Ps)
inductive It where
  | w (e : E) | rng (es : Es) | enum (es : Es)
inductive T where
  | and (es : Ts) | or (es : Ts) | not (a : T) | cmp (o : CmpOp) (a b : E) | chain (o p : CmpOp) (a b c : E) | e (a : E)
inductive Ts where
  | nil | cons (e : T) (r : Ts)
inductive Ot where
  | no | so (e : T)
end
def Ts.isNil : Ts → Bool
  | .nil => true
  | .cons _ _ => false
def Es.isNil : Es → Bool
  | .nil => true
  | .cons _ _ => false
def Es.len : Es → Nat
  | .nil => 0
  | .cons _ r => r.len + 1
/-- what the names stand for -/
structure De where
  cs : Nat → D
  F : Nat → Fn

/-! ### operators -/
def trOp (K : PySem.W.Frag) : Operator → R2
  | .Add => rAddU K
  | .Sub => rI0 fun i j => .int (i - j)
  | .Mult => rI IntMulOk fun i j => .int (i * j)
  | .FloorDiv => rI CDivM fun i j => .int (i.fdiv j)
  | .Mod => rI (fun _ j => j ≠ 0) fun i j => .int (i.fmod j)
  | .Pow => rI CPow fun i j => .int (i ^ j.toNat)
  | _ => fun _ _ _ _ => False
def dnOp : Operator → D → D → M D
  | .Add => fAdd
  | .Sub => fSub
  | .Mult => fMul
  | .FloorDiv => fDiv
  | .Mod => fMod
  | .Pow => fPow
  | _ => fun _ _ => stuck
def trCmp (K : PySem.W.Frag) : CmpOp → R2
  | .Eq => rEqU K
  | .NotEq => rNeU K
  | .Lt => rI0 fun i j => .bl (decide (i < j))
  | .LtE => rI0 fun i j => .bl (decide (i ≤ j))
  | .Gt => rI0 fun i j => .bl (decide (j < i))
  | .GtE => rI0 fun i j => .bl (decide (j ≤ i))
  | .Is => rIsN
  | .IsNot => rNotN
  | .In => rInU K false
  | .NotIn => rInU K true
def dnCmp : CmpOp → D → D → M D
  | .Eq => fEq
  | .NotEq => fNe
  | .Lt => fLt
  | .LtE => fLe
  | .Gt => fGt
  | .GtE => fGe
  | .Is => fIsN
  | .IsNot => fNotN
  | .In => fIn
  | .NotIn => fNin
def trBi (K : PySem.W.Frag) : Bi → List V → Hp → VK → Prop
  | .len => rLenU K
  | .abs => fun xs H Q => ∃ i, xs = [.int i] ∧ Q (.int (if i < 0 then -i else i)) H
  | .max => fun xs H Q => ∃ i j, xs = [.int i, .int j] ∧ Q (.int (if j > i then j else i)) H
  | .min => fun xs H Q => ∃ i j, xs = [.int i, .int j] ∧ Q (.int (if j < i then j else i)) H
  | .int => rIntU
  | .str => rStrU
  | .ord => fun xs H Q => ∃ x, xs = [.str x] ∧ x.length = 1 ∧ Q (.int (x.cps.getD 0 0 : Nat)) H
  | .tuple => rTupU K
def dnBi : Bi → List D → M D
  | .len => f1 oLen
  | .abs => f1 oAbs
  | .max => f2 oMax2
  | .min => f2 oMin2
  | .int => f1 oInt
  | .str => f1 oStr
  | .ord => f1 oOrd
  | .tuple => f1 oTuple
def trSm (K : PySem.W.Frag) : Sm → V → List V → Hp → VK → Prop
  | .part => fun x xs H Q => ∃ a b, x = .str a ∧ xs = [.str b] ∧ (b.length == 0) = false ∧ a.length ≤ sizeLine ∧ ∀ p, H p = none → Q (.ref p) (upd H p (.tup [.str (Txt.partition a b).1, .str (Txt.partition a b).2.1, .str (Txt.partition a b).2.2]))
  | .ends => fun x xs H Q => ∃ a b, x = .str a ∧ xs = [.str b] ∧ Q (.bl (Txt.endswith a b)) H
  | .starts => fun x xs H Q => ∃ a b, x = .str a ∧ xs = [.str b] ∧ Q (.bl (Txt.startswith a b)) H
  | .find => fun x xs H Q => ∃ a b, x = .str a ∧ xs = [.str b] ∧ Q (.int (Txt.find a b)) H
  | .count => fun x xs H Q => ∃ a b, x = .str a ∧ xs = [.str b] ∧ Q (.int (Txt.count a b)) H
  | .split => fun x xs H Q => ∃ a b, x = .str a ∧ xs = [.str b] ∧ (b.length == 0) = false ∧ a.length + 2 ≤ sizeLine ∧ rNewStrs (Txt.split a b) H Q
  | .join => fun x xs H Q => ∃ a p, ∃ ys : List Str, x = .str a ∧ xs = [.ref p] ∧ (SqL K H p (ys.map V.str) ∨ SqT K H p (ys.map V.str)) ∧ (ys.map (·.length)).sum + ys.length * a.length ≤ 16777216 ∧ Q (.str (Txt.join a ys)) H
def dnSm : Sm → HS → Str → D → Option D
  | .part => oPart
  | .ends => oEnds
  | .starts => oStarts
  | .find => oFind
  | .count => oCount
  | .split => oSplit
  | .join => oJoin
def trLm : Lm → V → List V → Hp → VK → Prop
  | .append => rAppend
  | .pop => rPop
def dnLm : Lm → D → List D → M D
  | .append => fAppend
  | .pop => fPop
section
variable {g : G} {W : WX}
theorem rr_op (o : Operator) : RR2 g W (trOp g.K o) (dnOp o) := by
  cases o
  case Add => exact rr_add
  case Sub => exact rr_sub
  case Mult => exact rr_mul
  case FloorDiv => exact rr_div
  case Mod => exact rr_mod
  case Pow => exact rr_pow
  all_goals exact fun n w s σ H x y d e Q I hx hy h => h.elim
theorem rr_cmp (o : CmpOp) : RR2 g W (trCmp g.K o) (dnCmp o) := by
  cases o
  case Eq => exact rr_eq
  case NotEq => exact rr_ne
  case Lt => exact rr_lt
  case LtE => exact rr_le
  case Gt => exact rr_gt
  case GtE => exact rr_ge
  case Is => exact rr_isN
  case IsNot => exact rr_notN
  case In => exact rr_in
  case NotIn => exact rr_nin
theorem rn_bi (b : Bi) : RN g W (trBi g.K b) (dnBi b) := by
  cases b
  case len => exact rn_len
  case abs => exact rn_abs
  case max => exact rn_max2
  case min => exact rn_min2
  case int => exact rn_int
  case str => exact rn_str
  case ord => exact rn_ord
  case tuple => exact rn_tuple
theorem rm_sm (m : Sm) : RM1 g (trSm g.K m) (dnSm m) := by
  cases m
  case part => exact rm_part
  case ends => exact rm_ends
  case starts => exact rm_starts
  case find => exact rm_find
  case count => exact rm_count
  case split => exact rm_split
  case join => exact rm_join
theorem rm_lm (m : Lm) : RMt g W (trLm m) (dnLm m) := by
  cases m
  case append => exact rm_append
  case pop => exact rm_pop
end

/-! ### targets -/
mutual
def trG (K : PySem.W.Frag) : Tg → TG
  | .s i => gName i
  | .tup ts => gTup K ts.len (trGs K ts)
def trGs (K : PySem.W.Frag) : Tgs → TGs
  | .nil => gNil
  | .cons t r => gCons (trG K t) (trGs K r)
def Tgs.len : Tgs → Nat
  | .nil => 0
  | .cons _ r => r.len + 1
end
mutual
def dnG : Tg → D → M Unit
  | .s i => gSlot i
  | .tup ts => gTupM ts.len (dnGs ts)
def dnGs : Tgs → List D → M Unit
  | .nil => gNilM
  | .cons t r => gConsM (dnG t) (dnGs r)
end
mutual
theorem nox_G : ∀ t : Tg, NoX (dnG t)
  | .s i => nox_slot i
  | .tup ts => nox_tup (noxs_G ts)
theorem noxs_G : ∀ ts : Tgs, NoXs (dnGs ts)
  | .nil => noxs_nil
  | .cons t r => noxs_cons (nox_G t) (noxs_G r)
end
mutual
theorem rg_G {g : G} : ∀ t : Tg, RG g (trG g.K t) (dnG t)
  | .s i => rg_slot i
  | .tup ts => rg_tup (rgs_G ts)
theorem rgs_G {g : G} : ∀ ts : Tgs, RGs g (trGs g.K ts) (dnGs ts)
  | .nil => rgs_nil
  | .cons t r => rgs_cons (rg_G t) (nox_G t) (rgs_G r)
end
mutual
def tgIn (vs : List Nat) : Tg → Bool
  | .s i => vs.contains i
  | .tup ts => tgsIn vs ts
def tgsIn (vs : List Nat) : Tgs → Bool
  | .nil => true
  | .cons t r => tgIn vs t && tgsIn vs r
end
mutual
theorem trG_mono {K : PySem.W.Frag} : ∀ (t : Tg) (v : V) (σ : L2.St) (H : Hp) (Q Q' : L2.St → Hp → Prop), (∀ a b, Q a b → Q' a b) → trG K t v σ H Q → trG K t v σ H Q'
  | .s i, v, σ, H, Q, Q', k, h => k _ _ h
  | .tup ts, v, σ, H, Q, Q', k, h => by
    obtain ⟨a, xs, e, h1, h2, h3⟩ := h
    exact ⟨a, xs, e, h1, h2, trGs_mono ts xs σ H Q Q' k h3⟩
theorem trGs_mono {K : PySem.W.Frag} : ∀ (t : Tgs) (v : List V) (σ : L2.St) (H : Hp) (Q Q' : L2.St → Hp → Prop), (∀ a b, Q a b → Q' a b) → trGs K t v σ H Q → trGs K t v σ H Q'
  | .nil, v, σ, H, Q, Q', k, h => ⟨h.1, k _ _ h.2⟩
  | .cons t r, v, σ, H, Q, Q', k, h => by
    obtain ⟨x, xs, e, h1⟩ := h
    exact ⟨x, xs, e, trG_mono t x σ H _ _ (fun a b z => trGs_mono r xs a b Q Q' k z) h1⟩
end
mutual
theorem tg_ok {K : PySem.W.Frag} {vs : List Nat} : ∀ t : Tg, tgIn vs t = true → TgOk (trG K t) vs
  | .s i, h => tg_slot (by simpa [tgIn] using h)
  | .tup ts, h => fun v σ H Q k => by
    obtain ⟨a, xs, e, h1, h2, h3⟩ := k
    exact ⟨a, xs, e, h1, h2, tgs_ok ts h xs σ H Q h3⟩
theorem tgs_ok {K : PySem.W.Frag} {vs : List Nat} : ∀ ts : Tgs, tgsIn vs ts = true → TgsOk (trGs K ts) vs
  | .nil, _ => tgs_nil
  | .cons t r, h => by
    have h' : (tgIn vs t && tgsIn vs r) = true := h
    obtain ⟨h1, h2⟩ := Bool.and_eq_true_iff.mp h'
    exact tgs_cons (tg_ok t h1) (tgs_ok r h2) (trG_mono t) (trGs_mono r)
end

/-! ### readings -/
mutual
def trE (g : G) (de : De) (W : WX) : E → TE
  | .v i => tVar i
  | .fv i => tVar i
  | .int i => tC (.int i)
  | .str x => tC (.str x)
  | .bl b => tC (.bl b)
  | .non => tC .non
  | .gl k => fun _ H Q => ∀ v, (∀ F io, FV g F io (de.cs k) v) → Q v H
  | .op o a b => tOp (trOp g.K o) (trE g de W a) (trE g de W b)
  | .neg a => tUn (rU fun i => .int (-i)) (trE g de W a)
  | .not a => tNotV (trE g de W a)
  | .and es => trAnd g de W es
  | .or es => trOr g de W es
  | .cmp o a b => tOp (trCmp g.K o) (trE g de W a) (trE g de W b)
  | .chain o p a b c => tChain (trCmp g.K o) (trCmp g.K p) (trE g de W a) (trE g de W b) (trE g de W c)
  | .ife c a b => tIf (trT g de W c) (trE g de W a) (trE g de W b)
  | .tup es => tTup (trEs g de W es)
  | .lst es => tLst (trEs g de W es)
  | .newl es => tLst (trEs g de W es)
  | .idx a b => tOp (rIdxU g.K) (trE g de W a) (trE g de W b)
  | .sl a lo hi => tSl (rSlU g.K) (trE g de W a) (trO g de W lo) (trO g de W hi)
  | .call k n es => tCallS (spF g (de.F k) n) (WE W) (trEs g de W es)
  | .bi b es => tCB (trBi g.K b) (trEs g de W es)
  | .isi T a => tCB (rIsi g.K) (tCons (trE g de W a) (tCons (tC (.ty T)) tNil))
  | .m1 m a b => tM1 (trSm g.K m) (trE g de W a) (trE g de W b)
  | .js es => fun σ H Q => tJs (trJs g de W es) Str.empty σ H fun out H1 => Q (.str out) H1
  | .lc i t c e vs => tLc (trI g de W i) (trG g.K t) (trC g de c) (trE g de W0 e) (vs.map (·.2))
  | .lcN i t c e vs => tLc (trI g de W i) (trG g.K t) (trC g de c) (trE g de W0 e) (vs.map (·.2))
  | .dnew => tDNewK
  | .disp ps => tDisp (trPs g de W ps)
  | .bm m a es => tBM g.K "list" (trLm m) (trE g de W a) (trEs g de W es)
  | .fz a => trE g de W a
  | .fm a => tFmt (trE g de W a)
  | .wall => fun _ _ _ => False
def trEs (g : G) (de : De) (W : WX) : Es → TA
  | .nil => tNil
  | .cons e r => tCons (trE g de W e) (trEs g de W r)
def trAnd (g : G) (de : De) (W : WX) : Es → TE
  | .nil => fun _ _ _ => False
  | .cons e r => if r.isNil then trE g de W e else tAndV (trE g de W e) (trAnd g de W r)
def trOr (g : G) (de : De) (W : WX) : Es → TE
  | .nil => fun _ _ _ => False
  | .cons e r => if r.isNil then trE g de W e else tOrV (trE g de W e) (trOr g de W r)
def trO (g : G) (de : De) (W : WX) : Oe → TO
  | .no => tNoPart
  | .so e => tPart (trE g de W e)
def trC (g : G) (de : De) : Ot → TT
  | .no => tYes
  | .so e => trT g de W0 e
def trJs (g : G) (de : De) (W : WX) : Js → List TE
  | .nil => []
  | .txt x r => tC (.str x) :: trJs g de W r
  | .fmt e r => tFmt (trE g de W e) :: trJs g de W r
def trPs (g : G) (de : De) (W : WX) : Ps → List (TE × TE)
  | .nil => []
  | .cons k v r => (trE g de W k, trE g de W v) :: trPs g de W r
def trI (g : G) (de : De) (W : WX) : It → TI
  | .w e => iAny g.K (trE g de W e)
  | .rng es => if es.len = 1 then iRng1 (trEs g de W es) else iRng2 (trEs g de W es)
  | .enum es => iEnum g.K (trEs g de W es)
/-- tests -/
def trT (g : G) (de : De) (W : WX) : T → TT
  | .and es => trTA g de W es
  | .or es => trTO g de W es
  | .not a => tNot (trT g de W a)
  | .cmp o a b => tTest (tOp (trCmp g.K o) (trE g de W a) (trE g de W b))
  | .chain o p a b c => tTest (tChain (trCmp g.K o) (trCmp g.K p) (trE g de W a) (trE g de W b) (trE g de W c))
  | .e a => fun σ H Q => trE g de W a σ H fun x H' => ∃ k, TruV g.K x H' k ∧ Q k H'
def trTA (g : G) (de : De) (W : WX) : Ts → TT
  | .nil => fun _ _ _ => False
  | .cons e r => if r.isNil then trT g de W e else tAnd (trT g de W e) (trTA g de W r)
def trTO (g : G) (de : De) (W : WX) : Ts → TT
  | .nil => fun _ _ _ => False
  | .cons e r => if r.isNil then trT g de W e else tOr (trT g de W e) (trTO g de W r)
end
/-! ### runs -/
mutual
def dnE (de : De) : E → M D
  | .v i => eVar i
  | .fv i => eFzV i
  | .int i => ret (.int i)
  | .str x => ret (.str x)
  | .bl b => ret (.bl b)
  | .non => ret .non
  | .gl k => ret (de.cs k)
  | .op o a b => eOp (dnOp o) (dnE de a) (dnE de b)
  | .neg a => eUn fNeg (dnE de a)
  | .not a => eNot (dnE de a)
  | .and es => dnAnd de es
  | .or es => dnOr de es
  | .cmp o a b => eOp (dnCmp o) (dnE de a) (dnE de b)
  | .chain o p a b c => eChain (dnCmp o) (dnCmp p) (dnE de a) (dnE de b) (dnE de c)
  | .ife c a b => eIf (dnT de c) (dnE de a) (dnE de b)
  | .tup es => eTup (dnEs de es)
  | .lst es => eFrz (lLst (dnEs de es))
  | .newl es => eNewL (lLst (dnEs de es))
  | .idx a b => eOp fIdx (dnE de a) (dnE de b)
  | .sl a lo hi => eSl (dnE de a) (dnO de lo) (dnO de hi)
  | .call k n es => eCall (de.F k) n (dnEs de es)
  | .bi b es => bnd (dnEs de es) (dnBi b)
  | .isi T a => eIsi T (dnE de a)
  | .m1 m a b => eM1 (dnSm m) (dnE de a) (dnE de b)
  | .js es => eJs (dnJs de es)
  | .lc i t c e vs => eFrz (if tgIn (vs.map (·.2)) t then lcM (dnI de i) (dnG t) (dnC de c) (dnE de e) (vs.map (·.2)) else stuck)
  | .lcN i t c e vs => eNewL (if tgIn (vs.map (·.2)) t then lcM (dnI de i) (dnG t) (dnC de c) (dnE de e) (vs.map (·.2)) else stuck)
  | .dnew => eNewD [] (ret [])
  | .disp ps => eDisp (dnPs de ps)
  | .bm m a es => eBM "list" (dnLm m) (dnE de a) (dnEs de es)
  | .fz a => eFz (dnE de a)
  | .fm a => eFmt (dnE de a)
  | .wall => stuck
def dnEs (de : De) : Es → M (List D)
  | .nil => aNil
  | .cons e r => aCons (dnE de e) (dnEs de r)
def dnAnd (de : De) : Es → M D
  | .nil => stuck
  | .cons e r => if r.isNil then dnE de e else eAnd (dnE de e) (dnAnd de r)
def dnOr (de : De) : Es → M D
  | .nil => stuck
  | .cons e r => if r.isNil then dnE de e else eOr (dnE de e) (dnOr de r)
def dnO (de : De) : Oe → M (Option Int)
  | .no => oNone
  | .so e => oSome (dnE de e)
def dnC (de : De) : Ot → M Bool
  | .no => ret true
  | .so e => dnT de e
def dnJs (de : De) : Js → List (M D)
  | .nil => []
  | .txt x r => ret (.str x) :: dnJs de r
  | .fmt e r => eFmt (dnE de e) :: dnJs de r
def dnPs (de : De) : Ps → List (M D × M D)
  | .nil => []
  | .cons k v r => (dnE de k, dnE de v) :: dnPs de r
def dnI (de : De) : It → M (List D)
  | .w e => iW (dnE de e)
  | .rng es => if es.len = 1 ∨ es.len = 2 then iR (dnEs de es) else stuck
  | .enum es => iE (dnEs de es)
def dnT (de : De) : T → M Bool
  | .and es => dnTA de es
  | .or es => dnTO de es
  | .not a => tNot' (dnT de a)
  | .cmp o a b => tVal (eOp (dnCmp o) (dnE de a) (dnE de b))
  | .chain o p a b c => tVal (eChain (dnCmp o) (dnCmp p) (dnE de a) (dnE de b) (dnE de c))
  | .e a => pTru (dnE de a)
def dnTA (de : De) : Ts → M Bool
  | .nil => stuck
  | .cons e r => if r.isNil then dnT de e else tAnd' (dnT de e) (dnTA de r)
def dnTO (de : De) : Ts → M Bool
  | .nil => stuck
  | .cons e r => if r.isNil then dnT de e else tOr' (dnT de e) (dnTO de r)
end
end Mi

set_option linter.all false
set_option maxRecDepth 100000
set_option maxHeartbeats 4000000
/-! Mi: a reading does what its run does. -/
namespace Mi
open PySem PySem.Spec PyProof.Rows L2
section
variable {g : G} {de : De}
theorem bnd_inv {α β : Type} {m : M α} {f : α → M β} {s s' : S} {b : β} (h : bnd m f s = some (.ok b s')) : ∃ a s1, m s = some (.ok a s1) ∧ f a s1 = some (.ok b s') := by
  unfold bnd at h
  cases e : m s with
  | none =>
    rw [e] at h
    cases h
  | some r =>
    cases r with
    | exc c s1 =>
      rw [e] at h
      cases h
    | ok a s1 =>
      rw [e] at h
      exact ⟨a, s1, rfl, h⟩
theorem aCons_len {a : M D} {r : M (List D)} {k : Nat} (h : ∀ s ds s', r s = some (.ok ds s') → ds.length = k) {s : S} {ds : List D} {s' : S} (e : aCons a r s = some (.ok ds s')) : ds.length = k + 1 := by
  obtain ⟨x, s1, e1, e2⟩ := bnd_inv e
  obtain ⟨xs, s2, e3, e4⟩ := bnd_inv e2
  cases e4
  rw [List.length_cons, h _ _ _ e3]
theorem dnEs_len : ∀ (es : Es) (s : S) (ds : List D) (s' : S), dnEs de es s = some (.ok ds s') → ds.length = es.len
  | .nil, s, ds, s', e => by
    cases e
    rfl
  | .cons e r, s, ds, s', h => aCons_len (fun s ds s' => dnEs_len r s ds s') h
theorem re_gl {W : WX} (d : D) : RE g W (fun _ H Q => ∀ v, (∀ F io, FV g F io d v) → Q v H) (ret d) := fun n w s σ H Q I h v hv => h v w H I (Le.refl _ _) (hv _ _)
theorem rt_test {W : WX} {te : TE} {me : M D} (h : RE g W te me) : RT g W (tTest te) (tVal me) := fun n w s σ H Q I hq => rt_B h n w s σ H Q I hq
theorem rt_yes {W : WX} : RT g W tYes (ret true) := fun n w s σ H Q I h => h w H I (Le.refl _ _)
theorem re_stuck {W : WX} {t : TE} : RE g W t stuck := fun n w s σ H Q I h => h.elim
theorem rl_stuck {W : WX} {t : TE} : RL g W t stuck := fun n w s σ H Q I h => h.elim
theorem ri_stuck {W : WX} {t : TI} : RI g W t stuck := fun n w s σ H Q I h => h.elim
theorem rt_stuck {W : WX} {t : TT} : RT g W t stuck := fun n w s σ H Q I h => h.elim
end
mutual
theorem re_E {g : G} {de : De} (hf : ∀ k, FnSl (de.F k)) (W : WX) : ∀ e : E, RE g W (trE g de W e) (dnE de e)
  | .v i => re_var i
  | .fv i => re_fzV i
  | .int i => re_c fun _ _ => rfl
  | .str x => re_c fun _ _ => rfl
  | .bl b => re_c fun _ _ => rfl
  | .non => re_c fun _ _ => rfl
  | .gl k => re_gl _
  | .op o a b => re_op (re_E hf W a) (re_E hf W b) (rr_op o)
  | .neg a => re_un (re_E hf W a) r1_neg
  | .not a => re_not (re_E hf W a)
  | .and es => re_And hf W es
  | .or es => re_Or hf W es
  | .cmp o a b => re_op (re_E hf W a) (re_E hf W b) (rr_cmp o)
  | .chain o p a b c => re_chain (re_E hf W a) (re_E hf W b) (re_E hf W c) (rr_cmp o) (rr_cmp p)
  | .ife c a b => re_if (rt_T hf W c) (re_E hf W a) (re_E hf W b)
  | .tup es => re_tup (ra_Es hf W es)
  | .lst es => re_frz (rl_lst (ra_Es hf W es))
  | .newl es => re_newL (rl_lst (ra_Es hf W es))
  | .idx a b => re_op (re_E hf W a) (re_E hf W b) rr_idx
  | .sl a lo hi => re_sl (re_E hf W a) (ro_O hf W lo) (ro_O hf W hi)
  | .call k n es => re_call (hf k) (ra_Es hf W es)
  | .bi b es => re_cb (ra_Es hf W es) (rn_bi b)
  | .isi T a => re_isi T (re_E hf W a)
  | .m1 m a b => re_m1 (rm_sm m) (re_E hf W a) (re_E hf W b)
  | .js es => re_js (rjs_Js hf W es)
  | .lc i t c e vs => by
    have z : RL g W (tLc (trI g de W i) (trG g.K t) (trC g de c) (trE g de W0 e) (vs.map (·.2))) (if tgIn (vs.map (·.2)) t then lcM (dnI de i) (dnG t) (dnC de c) (dnE de e) (vs.map (·.2)) else stuck) := by
      cases q : tgIn (vs.map (·.2)) t with
      | false => exact rl_stuck
      | true => exact rl_lc (ri_I hf W i) (rg_G t) (tg_ok t q) (nox_G t) (rt_C hf c) (re_E hf W0 e)
    exact re_frz z
  | .lcN i t c e vs => by
    have z : RL g W (tLc (trI g de W i) (trG g.K t) (trC g de c) (trE g de W0 e) (vs.map (·.2))) (if tgIn (vs.map (·.2)) t then lcM (dnI de i) (dnG t) (dnC de c) (dnE de e) (vs.map (·.2)) else stuck) := by
      cases q : tgIn (vs.map (·.2)) t with
      | false => exact rl_stuck
      | true => exact rl_lc (ri_I hf W i) (rg_G t) (tg_ok t q) (nox_G t) (rt_C hf c) (re_E hf W0 e)
    exact re_newL z
  | .dnew => re_dnew
  | .disp ps => re_disp (rps_Ps hf W ps)
  | .bm m a es => re_bm (rm_lm m) (re_E hf W a) (ra_Es hf W es)
  | .fz a => re_fz (re_E hf W a)
  | .fm a => re_fmt (re_E hf W a)
  | .wall => re_stuck
theorem ra_Es {g : G} {de : De} (hf : ∀ k, FnSl (de.F k)) (W : WX) : ∀ es : Es, RA g W (trEs g de W es) (dnEs de es)
  | .nil => ra_nil
  | .cons e r => ra_cons (re_E hf W e) (ra_Es hf W r)
theorem re_And {g : G} {de : De} (hf : ∀ k, FnSl (de.F k)) (W : WX) : ∀ es : Es, RE g W (trAnd g de W es) (dnAnd de es)
  | .nil => re_stuck
  | .cons e r => by
    have h1 := re_E (g := g) hf W e
    have h2 := re_And (g := g) hf W r
    show RE g W (if r.isNil then trE g de W e else tAndV (trE g de W e) (trAnd g de W r)) (if r.isNil then dnE de e else eAnd (dnE de e) (dnAnd de r))
    cases r.isNil with
    | true => exact h1
    | false => exact re_and h1 h2
theorem re_Or {g : G} {de : De} (hf : ∀ k, FnSl (de.F k)) (W : WX) : ∀ es : Es, RE g W (trOr g de W es) (dnOr de es)
  | .nil => re_stuck
  | .cons e r => by
    have h1 := re_E (g := g) hf W e
    have h2 := re_Or (g := g) hf W r
    show RE g W (if r.isNil then trE g de W e else tOrV (trE g de W e) (trOr g de W r)) (if r.isNil then dnE de e else eOr (dnE de e) (dnOr de r))
    cases r.isNil with
    | true => exact h1
    | false => exact re_or h1 h2
theorem ro_O {g : G} {de : De} (hf : ∀ k, FnSl (de.F k)) (W : WX) : ∀ o : Oe, RO g W (trO g de W o) (dnO de o)
  | .no => ro_none
  | .so e => ro_some (re_E hf W e)
theorem rt_C {g : G} {de : De} (hf : ∀ k, FnSl (de.F k)) : ∀ o : Ot, RT g W0 (trC g de o) (dnC de o)
  | .no => rt_yes
  | .so e => rt_T hf W0 e
theorem rjs_Js {g : G} {de : De} (hf : ∀ k, FnSl (de.F k)) (W : WX) : ∀ es : Js, RJs g W (trJs g de W es) (dnJs de es)
  | .nil => .nil
  | .txt x r => .cons (re_c fun _ _ => rfl) (rjs_Js hf W r)
  | .fmt e r => .cons (re_fmt (re_E hf W e)) (rjs_Js hf W r)
theorem rps_Ps {g : G} {de : De} (hf : ∀ k, FnSl (de.F k)) (W : WX) : ∀ es : Ps, RPs g W (trPs g de W es) (dnPs de es)
  | .nil => .nil
  | .cons k v r => .cons (re_E hf W k) (re_E hf W v) (rps_Ps hf W r)
theorem ri_I {g : G} {de : De} (hf : ∀ k, FnSl (de.F k)) (W : WX) : ∀ i : It, RI g W (trI g de W i) (dnI de i)
  | .w e => ri_any (re_E hf W e)
  | .rng es => by
    have h := ra_Es (g := g) hf W es
    show RI g W (if es.len = 1 then iRng1 (trEs g de W es) else iRng2 (trEs g de W es)) (if es.len = 1 ∨ es.len = 2 then iR (dnEs de es) else stuck)
    by_cases h1 : es.len = 1
    · rw [if_pos h1, if_pos (.inl h1)]
      exact ri_rng1 h fun s ds s' e => (dnEs_len es s ds s' e).trans h1
    · rw [if_neg h1]
      by_cases h2 : es.len = 2
      · rw [if_pos (.inr h2)]
        exact ri_rng2 h fun s ds s' e => (dnEs_len es s ds s' e).trans h2
      · rw [if_neg (by omega)]
        exact ri_stuck
  | .enum es => ri_enum (ra_Es hf W es)
theorem rt_T {g : G} {de : De} (hf : ∀ k, FnSl (de.F k)) (W : WX) : ∀ e : T, RT g W (trT g de W e) (dnT de e)
  | .and es => rt_TA hf W es
  | .or es => rt_TO hf W es
  | .not a => rt_not (rt_T hf W a)
  | .cmp o a b => rt_test (re_op (re_E hf W a) (re_E hf W b) (rr_cmp o))
  | .chain o p a b c => rt_test (re_chain (re_E hf W a) (re_E hf W b) (re_E hf W c) (rr_cmp o) (rr_cmp p))
  | .e a => rt_truth (re_E hf W a)
theorem rt_TA {g : G} {de : De} (hf : ∀ k, FnSl (de.F k)) (W : WX) : ∀ es : Ts, RT g W (trTA g de W es) (dnTA de es)
  | .nil => rt_stuck
  | .cons e r => by
    have h1 := rt_T (g := g) hf W e
    have h2 := rt_TA (g := g) hf W r
    show RT g W (if r.isNil then trT g de W e else tAnd (trT g de W e) (trTA g de W r)) (if r.isNil then dnT de e else tAnd' (dnT de e) (dnTA de r))
    cases r.isNil with
    | true => exact h1
    | false => exact rt_and h1 h2
theorem rt_TO {g : G} {de : De} (hf : ∀ k, FnSl (de.F k)) (W : WX) : ∀ es : Ts, RT g W (trTO g de W es) (dnTO de es)
  | .nil => rt_stuck
  | .cons e r => by
    have h1 := rt_T (g := g) hf W e
    have h2 := rt_TO (g := g) hf W r
    show RT g W (if r.isNil then trT g de W e else tOr (trT g de W e) (trTO g de W r)) (if r.isNil then dnT de e else tOr' (dnT de e) (dnTO de r))
    cases r.isNil with
    | true => exact h1
    | false => exact rt_or h1 h2
end
end Mi

set_option linter.all false
set_option maxRecDepth 100000
set_option maxHeartbeats 8000000
/-! Mi: texts checked against expressions as data. -/
namespace Mi
open PySem PySem.Spec PyProof.Rows L2

structure Cn where
  N : List Str
  sc : Scope
  gs : List Str
  fs : List (Str × Nat)
  bs : List Str
  cl : List Str
  ce : List Str
/-- a def that stands, seen from a body -/
structure FnX (X : Cx) (g : G) (x : Str) (n : Nat) (f : Fn) : Prop where
  ex : ∃ (j : Nat) (a : Addr) (fd : FuncData) (ps : List Str), FnOk X.prog X.w X.K X.mg X.base (L2.CX X.prog X.w) j a fd ps (spF g f n) ∧ Room j X.A ∧ X.mg x = some (.ref a) ∧ PySem.W.keepIn X.K (.ref a) = true ∧ Binds X.K fd ps []
structure Ctx (X : Cx) (g : G) (de : De) (c : Cn) : Prop where
  K : g.K = X.K
  N : X.N = c.N
  nd : X.N.Nodup
  sc : X.env.scope = c.sc
  calm : X.calm = true
  un : X.A.units + 64 < cLine
  fn : ∀ x, x ∈ c.ce → X.fn x = true
  bs : ∀ x, x ∈ c.bs → X.mg x = none
  cs : ∀ (k : Nat) (x : Str), c.gs[k]? = some x → ∃ u v, X.mg x = some u ∧ RelV v u ∧ ∀ F io, FV g F io (de.cs k) v
  fs : ∀ (k : Nat) (x : Str) (n : Nat), c.fs[k]? = some (x, n) → FnX X g x n (de.F k)
  cl : ∀ (k : Nat) (x : Str), c.cl[k]? = some x → X.mg x = some (.ref (g.C k)) ∧ ExcC X.K (g.C k)

/-! ### shapes -/
def notStar : Expr → Bool
  | .Starred _ _ => false
  | _ => true
theorem star_cons {e : Expr} {es : List Expr} {env : Env} (h : notStar e = true) : starEach (e :: es) env = (false, eval e env) :: starEach es env := by
  cases e <;> first | rfl | cases h
theorem back_any {pos : Pos} {env : Env} : ∀ {es : List Expr}, es.all notStar = true → (backTo pos (starEach es env)).any (·.1) = false
  | [], _ => rfl
  | e :: es, h => by
    rw [List.all_cons, Bool.and_eq_true] at h
    rw [star_cons h.1]
    show (false || (backTo pos (starEach es env)).any (·.1)) = false
    rw [back_any h.2]
    rfl
theorem back_all {pos : Pos} {env : Env} : ∀ {es : List Expr}, es.all notStar = true → (backTo pos (starEach es env)).all (fun x => !x.1) = true
  | [], _ => rfl
  | e :: es, h => by
    rw [List.all_cons, Bool.and_eq_true] at h
    rw [star_cons h.1]
    show (!false && (backTo pos (starEach es env)).all (fun x => !x.1)) = true
    rw [back_all h.2]
    rfl
def plainT : Expr → Bool
  | .UnaryOp .Not _ _ => false
  | .BoolOp _ _ _ => false
  | .IfExp _ _ _ _ => false
  | .Compare _ _ _ _ => false
  | _ => true
theorem plain_true {e : Expr} {env : Env} (h : plainT e = true) : ∀ whole, isTrue e env whole = (do let v ← whole; standAt e.pos; holding [v] (truthy v)) := by
  intro whole
  cases e <;> first | rfl | (cases h; done) | skip
  rename_i op x p
  cases op <;> first | rfl | cases h
def notSet : Expr → Bool
  | .Set _ _ _ => false
  | _ => true
theorem set_behind {op : CmpOp} {e : Expr} (h : notSet e = true) : behindInMarks op e = false := by
  cases e <;> first | rfl | cases h
theorem set_iter {e : Expr} {env : Env} (h : notSet e = true) : ∀ x, foldedSetIterable e env x = pure x := by
  intro x
  cases e <;> first | rfl | cases h
def notSlice : Expr → Bool
  | .Slice _ _ _ _ => false
  | _ => true
theorem slice_plain {e : Expr} (h : notSlice e = true) : PlainIx e := by
  intro o i
  cases e <;> first | rfl | cases h
def plainBase : Expr → Bool
  | .Call _ _ _ _ => false
  | _ => true
theorem base_plain {e : Expr} {m : Str} {env : Env} (h : plainBase e = true) : attributeBase e m env (eval e env) = eval e env := by
  cases e <;> first | rfl | cases h
def visI (c : Cn) (i : Nat) (x : Str) : Bool := decide (c.N[i]? = some x) && (decide (c.sc.names.lookup x = some .local) || decide (c.sc.names.lookup x = some .cell) || decide (c.sc.names.lookup x = some .free)) && decide ((x == ("__debug__" : Str)) = false) && decide ((x == ("__classdict__" : Str)) = false)
def glb (c : Cn) (x : Str) : Bool := decide (c.sc.names.lookup x = some .globalImplicit) && decide ((x == ("__debug__" : Str)) = false)
def bltn (c : Cn) (x : Str) : Bool := glb c x && decide (x ∈ c.bs) && decide (x ≠ ("__name__" : Str))
def biName : Bi → Str
  | .len => "len"
  | .abs => "abs"
  | .max => "max"
  | .min => "min"
  | .int => "int"
  | .str => "str"
  | .ord => "ord"
  | .tuple => "tuple"
def smName : Sm → Str
  | .part => "partition"
  | .ends => "endswith"
  | .starts => "startswith"
  | .find => "find"
  | .count => "count"
  | .split => "split"
  | .join => "join"
def lmName : Lm → Str
  | .append => "append"
  | .pop => "pop"
def tyName (T : String) : Bool := ["int", "bool", "str", "tuple", "list", "dict"].contains T
/-- the block's own names -/
def blkOk (c : Cn) (scope : Scope) (own : List (Str × Nat)) : Bool :=
  decide (scope.kind = .function) && scope.names.all (fun y => decide (scope.names.lookup y.1 = some y.2)) && own.all (fun p => decide (c.N[p.2]? = some p.1))
  && scope.names.all (fun y => decide (y.2 ≠ .free) || decide (c.sc.names.lookup y.1 = some .cell) || decide (c.sc.names.lookup y.1 = some .free))
  && scope.names.all (fun y => !(decide (y.2 = .local) || decide (y.2 = .cell)) || decide (y.1 ∈ own.map (·.1)) || decide (y.1 ∉ c.N))
theorem blk_of {c : Cn} {scope : Scope} {own : List (Str × Nat)} (h : blkOk c scope own = true) : BlkOk c.N c.sc scope own := by
  unfold blkOk at h
  simp only [Bool.and_eq_true] at h
  obtain ⟨⟨⟨⟨h1, h2⟩, h3⟩, h4⟩, h5⟩ := h
  refine ⟨of_decide_eq_true h1, fun y hy => of_decide_eq_true (List.all_eq_true.mp h2 y hy), fun p hp => of_decide_eq_true (List.all_eq_true.mp h3 p hp), fun y hy e => ?_, fun y hy e => ?_⟩
  · have z := List.all_eq_true.mp h4 y hy
    simp only [Bool.or_eq_true, decide_eq_true_eq] at z
    rcases z with (z | z) | z
    · exact (z e).elim
    · exact .inl z
    · exact .inr z
  · have z := List.all_eq_true.mp h5 y hy
    simp only [Bool.or_eq_true, Bool.not_eq_true', decide_eq_true_eq, Bool.or_eq_false_iff, decide_eq_false_iff_not] at z
    rcases z with (z | z) | z
    · rcases e with e | e
      · exact (z.1 e).elim
      · exact (z.2 e).elim
    · exact .inl z
    · exact .inr z
def Cn.blk (c : Cn) (scope : Scope) : Cn := { c with sc := relS scope c.sc, ce := [] }
/-! ### targets -/
def locI (c : Cn) (i : Nat) (x : Str) : Bool := decide (c.N[i]? = some x) && (decide (c.sc.names.lookup x = some .local) || (decide (c.sc.names.lookup x = some .cell) && decide (x ∈ c.ce)))
mutual
def chkG (c : Cn) : Tg → Expr → Bool
  | .s i, x => match x with
    | .Name y _ => locI c i y
    | _ => false
  | .tup ts, x => match x with
    | .Tuple es _ _ => chkGs c ts es
    | _ => false
def chkGs (c : Cn) : Tgs → List Expr → Bool
  | .nil, xs => xs.isEmpty
  | .cons t r, xs => match xs with
    | x :: rest => chkG c t x && chkGs c r rest
    | [] => false
end
/-! ### expressions -/
mutual
def chkE (c : Cn) : E → Expr → Bool
  | .v i, x => match x with
    | .Name y _ => visI c i y
    | _ => false
  | .fv i, x => match x with
    | .Name y _ => visI c i y
    | _ => false
  | .int i, x => match x with
    | .Constant (.int j) _ _ => decide (i = j)
    | _ => false
  | .str z, x => match x with
    | .Constant (.str y) _ _ => decide (z = y)
    | _ => false
  | .bl b, x => match x with
    | .Constant (.bool d) _ _ => decide (b = d)
    | _ => false
  | .non, x => match x with
    | .Constant .none _ _ => true
    | _ => false
  | .gl k, x => match x with
    | .Name y _ => glb c y && decide (c.gs[k]? = some y)
    | _ => false
  | .op o a b, x => match x with
    | .BinOp l q r _ => decide (o = q) && chkE c a l && chkE c b r
    | _ => false
  | .neg a, x => match x with
    | .UnaryOp .USub l _ => chkE c a l
    | _ => false
  | .not a, x => match x with
    | .UnaryOp .Not l _ => chkE c a l
    | _ => false
  | .and es, x => match x with
    | .BoolOp .And xs _ => chkEs c es xs
    | _ => false
  | .or es, x => match x with
    | .BoolOp .Or xs _ => chkEs c es xs
    | _ => false
  | .cmp o a b, x => match x with
    | .Compare l [q] [r] _ => decide (o = q) && chkE c a l && chkE c b r && notSet r
    | _ => false
  | .chain o p a b d, x => match x with
    | .Compare l [q, q2] [r, r2] _ => decide (o = q) && decide (p = q2) && chkE c a l && chkE c b r && chkE c d r2 && notSet r2
    | _ => false
  | .ife t a b, x => match x with
    | .IfExp u l r _ => chkT c t u && chkE c a l && chkE c b r
    | _ => false
  | .tup es, x => match x with
    | .Tuple xs _ _ => chkEs c es xs && xs.all notStar
    | _ => false
  | .lst es, x => match x with
    | .List xs _ => chkEs c es xs && xs.all notStar
    | _ => false
  | .newl es, x => match x with
    | .List xs _ => chkEs c es xs && xs.all notStar
    | _ => false
  | .idx a b, x => match x with
    | .Subscript l r _ => chkE c a l && chkE c b r && notSlice r
    | _ => false
  | .sl a lo hi, x => match x with
    | .Subscript l (.Slice u v none _) _ => chkE c a l && chkO c lo u && chkO c hi v
    | _ => false
  | .call k n es, x => match x with
    | .Call (.Name y _) xs [] _ => glb c y && decide (c.fs[k]? = some (y, n)) && chkEs c es xs && xs.all notStar
    | _ => false
  | .bi b es, x => match x with
    | .Call (.Name y _) xs [] _ => bltn c y && decide (biName b = y) && chkEs c es xs && xs.all notStar && !xs.isEmpty
    | _ => false
  | .isi T a, x => match x with
    | .Call (.Name y _) [l, .Name z _] [] _ => bltn c y && bltn c z && decide (y = ("isinstance" : Str)) && decide (z = (T : Str)) && tyName T && chkE c a l && notStar l
    | _ => false
  | .m1 m a b, x => match x with
    | .Call (.Attribute o nm ap) [l] [] p => decide (nm = smName m) && chkE c a o && chkE c b l && notStar l && plainBase o && (ap.endLine == p.line)
    | _ => false
  | .js es, x => match x with
    | .JoinedStr xs _ => chkJs c es xs && decide (2 ≤ xs.length)
    | _ => false
  | .lc i t q e own, x => match x with
    | .ListComp el [⟨tg, it, ifs, 0⟩] sc _ => chkI c tg i it && blkOk c sc own && chkG (c.blk sc) t tg && chkC (c.blk sc) q ifs && chkE (c.blk sc) e el && notSet it
    | _ => false
  | .lcN i t q e own, x => match x with
    | .ListComp el [⟨tg, it, ifs, 0⟩] sc _ => chkI c tg i it && blkOk c sc own && chkG (c.blk sc) t tg && chkC (c.blk sc) q ifs && chkE (c.blk sc) e el && notSet it
    | _ => false
  | .dnew, x => match x with
    | .Dict [] [] _ => true
    | _ => false
  | .disp ps, x => match x with
    | .Dict ks vs _ => chkPs c ps ks vs && decide (ks ≠ []) && decide (ks.length ≤ 15)
    | _ => false
  | .bm m a es, x => match x with
    | .Call (.Attribute o nm ap) xs [] p => decide (nm = lmName m) && chkE c a o && chkEs c es xs && xs.all notStar && plainBase o && (ap.endLine == p.line) && decide (xs.length < 29)
    | _ => false
  | .fz a, x => chkE c a x
  | .fm a, x => match x with
    | .JoinedStr [.FormattedValue y (-1) none _] _ => chkE c a y
    | _ => false
  | .wall, _ => true
def chkEs (c : Cn) : Es → List Expr → Bool
  | .nil, xs => xs.isEmpty
  | .cons e r, xs => match xs with
    | x :: rest => chkE c e x && chkEs c r rest
    | [] => false
def chkO (c : Cn) : Oe → Option Expr → Bool
  | .no, x => x.isNone
  | .so e, x => match x with
    | some y => chkE c e y
    | none => false
def chkC (c : Cn) : Ot → List Expr → Bool
  | .no, xs => xs.isEmpty
  | .so t, xs => match xs with
    | [x] => chkT c t x
    | _ => false
def chkJs (c : Cn) : Js → List Expr → Bool
  | .nil, xs => xs.isEmpty
  | .txt z r, xs => match xs with
    | .Constant (.str y) _ _ :: rest => decide (z = y) && chkJs c r rest
    | _ => false
  | .fmt e r, xs => match xs with
    | .FormattedValue y (-1) none _ :: rest => chkE c e y && chkJs c r rest
    | _ => false
def chkPs (c : Cn) : Ps → List (Option Expr) → List Expr → Bool
  | .nil, ks, vs => ks.isEmpty && vs.isEmpty
  | .cons k v r, ks, vs => match ks, vs with
    | some a :: kr, b :: vr => chkE c k a && chkE c v b && chkPs c r kr vr
    | _, _ => false
def chkI (c : Cn) (tg : Expr) : It → Expr → Bool
  | .w e, x => chkE c e x
  | .rng es, x => match x with
    | .Call (.Name y _) xs [] _ => bltn c y && decide (y = ("range" : Str)) && chkEs c es xs && xs.all notStar && (decide (xs.length = 1) || decide (xs.length = 2))
    | _ => false
  | .enum es, x => match x with
    | .Call (.Name y _) [l] [] _ => bltn c y && decide (y = ("enumerate" : Str)) && chkEs c es [l] && notStar l && (match tg with
      | .Tuple _ _ _ => true
      | _ => false)
    | _ => false
def chkT (c : Cn) : T → Expr → Bool
  | .and es, x => match x with
    | .BoolOp .And xs _ => chkTs c es xs
    | _ => false
  | .or es, x => match x with
    | .BoolOp .Or xs _ => chkTs c es xs
    | _ => false
  | .not a, x => match x with
    | .UnaryOp .Not l _ => chkT c a l
    | _ => false
  | .cmp o a b, x => match x with
    | .Compare l [q] [r] _ => decide (o = q) && chkE c a l && chkE c b r && notSet r
    | _ => false
  | .chain o p a b d, x => match x with
    | .Compare l [q, q2] [r, r2] _ => decide (o = q) && decide (p = q2) && chkE c a l && chkE c b r && chkE c d r2 && notSet r2
    | _ => false
  | .e a, x => chkE c a x && plainT x
def chkTs (c : Cn) : Ts → List Expr → Bool
  | .nil, xs => xs.isEmpty
  | .cons e r, xs => match xs with
    | x :: rest => chkT c e x && chkTs c r rest
    | [] => false
end
end Mi

set_option linter.all false
set_option maxRecDepth 100000
set_option maxHeartbeats 8000000
/-! Mi: what is checked is read so. -/
namespace Mi
open PySem PySem.Spec PyProof.Rows L2
section
variable {X : Cx} {g : G} {de : De} {c : Cn} {W : WX}
theorem opr_op (K : Ctx X g de c) (o : Operator) : OpR X (binaryOp o) (trOp g.K o) := by
  rw [K.K]
  cases o
  case Add => exact op_addU
  case Sub => exact op_sub
  case Mult => exact op_mulM
  case FloorDiv => exact op_fdivM
  case Mod => exact op_modN
  case Pow => exact op_pow
  all_goals exact fun pins s σ H x y v u Q I rx ry h => h.elim
theorem Ctx.un1 (K : Ctx X g de c) : X.A.units + 1 < cLine := by
  have := K.un
  omega
theorem opr_cmp (K : Ctx X g de c) (o : CmpOp) : OpR X (compareOp o) (trCmp g.K o) := by
  rw [K.K]
  cases o
  case Eq => exact op_eqU K.un
  case NotEq => exact op_neU K.un
  case Lt => exact op_lt
  case LtE => exact op_le
  case Gt => exact op_gt
  case GtE => exact op_ge
  case Is => exact op_isN
  case IsNot => exact op_notN
  case In => exact op_inU K.un1
  case NotIn => exact op_ninU K.un1
theorem vis_of (K : Ctx X g de c) {i : Nat} {x : Str} {p : Pos} (h : visI c i x = true) : PE X (.Name x p) (tVar i) := by
  unfold visI at h
  simp only [Bool.and_eq_true, Bool.or_eq_true, decide_eq_true_eq] at h
  obtain ⟨⟨⟨h1, h2⟩, h3⟩, h4⟩ := h
  refine pe_var (by rw [K.N]; exact h1) ?_ h3 h4
  unfold Vis
  rw [K.sc]
  rcases h2 with (h2 | h2) | h2
  · exact .inl h2
  · exact .inr (.inl h2)
  · exact .inr (.inr h2)
theorem glb_of (K : Ctx X g de c) {x : Str} (h : glb c x = true) : Gl X x ∧ (x == ("__debug__" : Str)) = false := by
  unfold glb at h
  simp only [Bool.and_eq_true, decide_eq_true_eq] at h
  refine ⟨?_, h.2⟩
  show X.env.scope.names.lookup x = _
  rw [K.sc]
  exact h.1
theorem bltn_of (K : Ctx X g de c) {x : Str} (h : bltn c x = true) : Gl X x ∧ (x == ("__debug__" : Str)) = false ∧ X.mg x = none ∧ x ≠ ("__name__" : Str) := by
  unfold bltn at h
  simp only [Bool.and_eq_true, decide_eq_true_eq] at h
  obtain ⟨a, b⟩ := glb_of K h.1.1
  exact ⟨a, b, K.bs x h.1.2, h.2⟩
theorem pe_bi (K : Ctx X g de c) (b : Bi) {t : TA} {e : Expr} {es : List Expr} {p pos : Pos} (hb : bltn c (biName b) = true) (ha : PA X (e :: es) t) (hs : (e :: es).all notStar = true) : PE X (.Call (.Name (biName b) p) (e :: es) [] pos) (tCB (trBi g.K b) t) := by
  obtain ⟨h1, h2, h3, h4⟩ := bltn_of K hb
  rw [List.all_cons, Bool.and_eq_true] at hs
  have s1 := star_cons (es := es) (env := X.env) hs.1
  have s2 := back_any (pos := pos) (env := X.env) hs.2
  rw [K.K]
  cases b
  case len => exact pe_callB call_lenU h1 h3 (by decide +kernel) ha h4 h2 s1 s2
  case abs => exact pe_callB call_abs h1 h3 (by decide +kernel) ha h4 h2 s1 s2
  case max => exact pe_callB (call_max2 K.calm) h1 h3 (by decide +kernel) ha h4 h2 s1 s2
  case min => exact pe_callB (call_min2 K.calm) h1 h3 (by decide +kernel) ha h4 h2 s1 s2
  case int => exact pe_callTy call_intU h1 h3 (by decide +kernel) ha h4 h2 s1 s2
  case str => exact pe_callTy call_strU h1 h3 (by decide +kernel) ha h4 h2 s1 s2
  case ord => exact pe_callB call_ord h1 h3 (by decide +kernel) ha h4 h2 s1 s2
  case tuple => exact pe_callTy call_tuple_of h1 h3 (by decide +kernel) ha h4 h2 s1 s2
theorem boot_ty {T : String} (h : tyName T = true) : bootBuiltins (T : Str) = some (.type T) := by
  unfold tyName at h
  have h' : T = "int" ∨ T = "bool" ∨ T = "str" ∨ T = "tuple" ∨ T = "list" ∨ T = "dict" := by simpa using h
  rcases h' with rfl | rfl | rfl | rfl | rfl | rfl <;> decide +kernel
theorem pe_sm (K : Ctx X g de c) (m : Sm) {to te : TE} {o e : Expr} {ap pos : Pos} (ho : PE X o to) (he : PE X e te) (hs : notStar e = true) (hb : plainBase o = true) (hl : (ap.endLine == pos.line) = true) :
    PE X (.Call (.Attribute o (smName m) ap) [e] [] pos) (tM1 (trSm g.K m) to te) := by
  have s1 : starEach [e] X.env = [(false, eval e X.env)] := star_cons hs
  rw [K.K]
  cases m
  case part => exact pe_m1 F.slot_str_partition F.type_str_partition mt_partition ho he s1 (base_plain hb) hl
  case ends => exact pe_m1 F.slot_str_endswith F.type_str_endswith mt_endswith ho he s1 (base_plain hb) hl
  case starts => exact pe_m1 F.slot_str_startswith F.type_str_startswith mt_startswith ho he s1 (base_plain hb) hl
  case find => exact pe_m1 F.slot_str_find F.type_str_find mt_find ho he s1 (base_plain hb) hl
  case count => exact pe_m1 F.slot_str_count F.type_str_count mt_count ho he s1 (base_plain hb) hl
  case split => exact pe_m1 F.slot_str_split F.type_str_split mt_split ho he s1 (base_plain hb) hl
  case join => exact pe_m1 F.slot_str_join F.type_str_join mt_join ho he s1 (base_plain hb) hl
theorem few_of {env : Env} {es : List Expr} {pos : Pos} (h : es.all notStar = true) (hl : es.length < 29) : ((backTo pos (starEach es env)).all (fun x => !x.1) && (backToKw pos (keywordEach [] env)).all (fun x => x.1.isSome)
      && decide (es.length + ([] : List Keyword).length + (if ([] : List Keyword).isEmpty then 0 else 1) < 30)) = true := by
  rw [back_all h]
  have : decide (es.length + ([] : List Keyword).length + (if ([] : List Keyword).isEmpty then 0 else 1) < 30) = true := by
    apply decide_eq_true
    show es.length + 0 + 0 < 30
    omega
  rw [this]
  rfl
theorem pe_lm (K : Ctx X g de c) (m : Lm) {to : TE} {t : TA} {o : Expr} {es : List Expr} {ap pos : Pos} (ho : PE X o to) (ha : PA X es t) (hn : es = [] → t = tNil) (hs : es.all notStar = true) (hb : plainBase o = true) (hl : (ap.endLine == pos.line) = true) (hz : es.length < 29) :
    PE X (.Call (.Attribute o (lmName m) ap) es [] pos) (tBM g.K "list" (trLm m) to t) := by
  rw [K.K]
  cases es with
  | nil =>
    rw [hn rfl]
    show PE X _ (tBM0 X.K "list" (trLm m) to)
    cases m
    case append => exact pe_bm0 PySem.F.plainAttrs_list PySem.F.slot_list_append PySem.F.type_list_append mt_append ho (base_plain hb) hl
    case pop => exact pe_bm0 PySem.F.plainAttrs_list PySem.F.slot_list_pop PySem.F.type_list_pop mt_pop ho (base_plain hb) hl
  | cons e es =>
    have hs' := hs
    rw [List.all_cons, Bool.and_eq_true] at hs'
    have s1 := star_cons (es := es) (env := X.env) hs'.1
    have s2 := back_any (pos := pos) (env := X.env) hs'.2
    cases m
    case append => exact pe_bm PySem.F.plainAttrs_list PySem.F.slot_list_append PySem.F.type_list_append mt_append ho ha (base_plain hb) (few_of hs hz) hl s1 s2
    case pop => exact pe_bm PySem.F.plainAttrs_list PySem.F.slot_list_pop PySem.F.type_list_pop mt_pop ho ha (base_plain hb) (few_of hs hz) hl s1 s2
/-! ### targets -/
theorem loc_of (K : Ctx X g de c) {i : Nat} {x : Str} {p : Pos} (h : locI c i x = true) : PG X (.Name x p) (gName i) := by
  unfold locI at h
  simp only [Bool.and_eq_true, Bool.or_eq_true, decide_eq_true_eq] at h
  obtain ⟨h1, h2⟩ := h
  have hl : L2.Loc X.env.scope x := by
    unfold L2.Loc
    rw [K.sc]
    rcases h2 with h2 | h2
    · exact .inl h2
    · exact .inr h2.1
  refine pg_name K.nd (by rw [K.N]; exact h1) hl ?_
  rcases h2 with h2 | h2
  · exact .inr (by rw [K.sc]; exact h2)
  · exact .inl (K.fn x h2.2)
def notStarT : Tg → Bool := fun _ => true
theorem assign_star {e : Expr} {es : List Expr} {env : Env} (h : notStar e = true) : assignEach (e :: es) env = (false, assign e env) :: assignEach es env := by
  cases e <;> first | rfl | cases h
theorem chkG_star : ∀ (t : Tg) {x : Expr}, chkG c t x = true → notStar x = true
  | .s i, x, h => by
    cases x <;> first | rfl | cases h
  | .tup ts, x, h => by
    cases x <;> first | rfl | cases h
theorem chkGs_len : ∀ (ts : Tgs) {xs : List Expr}, chkGs c ts xs = true → (assignEach xs X.env).length = ts.len ∧ (assignEach xs X.env).findIdx? (·.1) = none
  | .nil, xs, h => by
    cases xs with
    | nil => exact ⟨rfl, rfl⟩
    | cons _ _ => cases h
  | .cons t r, xs, h => by
    cases xs with
    | nil => cases h
    | cons x rest =>
      have h' : (chkG c t x && chkGs c r rest) = true := h
      obtain ⟨h1, h2⟩ := Bool.and_eq_true_iff.mp h'
      obtain ⟨i1, i2⟩ := chkGs_len r h2
      rw [assign_star (chkG_star t h1)]
      refine ⟨by rw [List.length_cons, i1]; rfl, ?_⟩
      rw [List.findIdx?_cons, i2]
      rfl
end
mutual
theorem pg_G {X : Cx} {g : G} {de : De} {c : Cn} (K : Ctx X g de c) : ∀ (t : Tg) (x : Expr), chkG c t x = true → PG X x (trG g.K t)
  | .s i, x, h => by
    cases x <;> first | exact loc_of K h | cases h
  | .tup ts, x, h => by
    cases x <;> first | (cases h; done) | skip
    rename_i es k p
    obtain ⟨l1, l2⟩ := chkGs_len (X := X) ts h
    have z := pg_tup (pos := p) (k := k) K.calm (pgs_G K ts es h) l1 l2
    rw [← K.K] at z
    exact z
theorem pgs_G {X : Cx} {g : G} {de : De} {c : Cn} (K : Ctx X g de c) : ∀ (t : Tgs) (xs : List Expr), chkGs c t xs = true → PGs X xs (trGs g.K t)
  | .nil, xs, h => by
    cases xs with
    | nil => exact pgs_nil
    | cons _ _ => cases h
  | .cons t r, xs, h => by
    cases xs with
    | nil => cases h
    | cons x rest =>
      have h' : (chkG c t x && chkGs c r rest) = true := h
      obtain ⟨h1, h2⟩ := Bool.and_eq_true_iff.mp h'
      exact pgs_cons (pg_G K t x h1) (pgs_G K r rest h2) (by rw [assign_star (chkG_star t h1)]; rfl)
end
section
variable {X : Cx} {g : G} {de : De} {c : Cn} {W : WX}
theorem Ctx.blk (K : Ctx X g de c) (s : Shared) (H : Hp) (scope : Scope) (C : Addr) (cl : List (Str × Addr)) (fp : List Addr) : Ctx (X.blk s H scope (compEnvC scope cl C X.env) fp) g de (c.blk scope) := by
  have hsc : (compEnvC scope cl C X.env).scope = relS scope c.sc := by rw [← K.sc]; rfl
  exact ⟨K.K, K.N, K.nd, hsc, K.calm, K.un, fun x h => (by cases h), K.bs, K.cs, fun k x n e => ⟨(K.fs k x n e).ex⟩, K.cl⟩
theorem env_sc (K : Ctx X g de c) {scope : Scope} {own : List (Str × Nat)} (h : blkOk c scope own = true) : BlkOk X.N X.env.scope scope own := by
  rw [K.N, K.sc]
  exact blk_of h
theorem pe_callS0 {CX : CXT} {k : Nat} {f : Addr} {fd : FuncData} {ps : List Str} {sp : Sp} {E : L2.St → XK} {x : Str} {p pos : Pos} (F : FnOk X.prog X.w X.K X.mg X.base CX k f fd ps sp) (hr : Room k X.A) (hg : Gl X x) (hm : X.mg x = some (.ref f)) (hk : PySem.W.keepIn X.K (.ref f) = true) (hb : Binds X.K fd ps []) (hx : ∀ σ, PassesAt CX X σ (E σ))
    (hdb : (x == ("__debug__" : Str)) = false) : PE X (.Call (.Name x p) [] [] pos) (tCallS sp E tNil) := by
  refine ⟨fun pins s σ H Q I h => ?_⟩
  refine wpAny_Call_Name_kw (ld_glob I hg hm ?_ hdb)
  exact PySem.W.callWith_K0 I.kIn hk (run_fnS (us := []) F hr hb (hx σ) I .nil h)
theorem chkEs_len : ∀ (es : Es) {xs : List Expr}, chkEs c es xs = true → xs.length = es.len
  | .nil, xs, h => by
    cases xs with
    | nil => rfl
    | cons _ _ => cases h
  | .cons e r, xs, h => by
    cases xs with
    | nil => cases h
    | cons x rest =>
      have h' : (chkE c e x && chkEs c r rest) = true := h
      rw [List.length_cons, chkEs_len r (Bool.and_eq_true_iff.mp h').2]
      rfl
theorem nil_of : ∀ (es : Es) {xs : List Expr}, chkEs c es xs = true → xs = [] → trEs g de W es = tNil
  | .nil, _, _, _ => rfl
  | .cons e r, xs, h, hx => by
    subst hx
    cases h
theorem names_ne {x : Str} {p : Pos} {T : String} (K : Ctx X g de c) (hb : bltn c (T : Str) = true) (hT : tyName T = true) : PE X (.Name (T : Str) p) (tC (.ty T)) := by
  obtain ⟨h1, h2, h3, h4⟩ := bltn_of K hb
  exact pe_bltn h1 h3 (boot_ty hT) rfl h4 h2
end
mutual
theorem pe_E {X : Cx} {g : G} {de : De} {c : Cn} {W : WX} (K : Ctx X g de c) (tk : Takes X W) : ∀ (e : E) (x : Expr), chkE c e x = true → PE X x (trE g de W e)
  | .v i, x, h => by
    cases x <;> first | exact vis_of K h | cases h
  | .fv i, x, h => by
    cases x <;> first | exact vis_of K h | cases h
  | .int i, x, h => by
    unfold chkE at h
    split at h
    · have e := of_decide_eq_true h
      subst e
      exact pe_int
    · cases h
  | .str z, x, h => by
    unfold chkE at h
    split at h
    · have e := of_decide_eq_true h
      subst e
      exact pe_str
    · cases h
  | .bl b, x, h => by
    unfold chkE at h
    split at h
    · have e := of_decide_eq_true h
      subst e
      exact pe_bl
    · cases h
  | .non, x, h => by
    unfold chkE at h
    split at h
    · exact pe_non
    · cases h
  | .gl k, x, h => by
    unfold chkE at h
    split at h
    · simp only [Bool.and_eq_true, decide_eq_true_eq] at h
      obtain ⟨g1, g2⟩ := glb_of K h.1
      obtain ⟨u, v, e1, r, f⟩ := K.cs k _ h.2
      refine ⟨fun pins s σ H Q I q => ld_glob I g1 e1 ⟨v, H, I, r, q v f⟩ g2⟩
    · cases h
  | .op o a b, x, h => by
    unfold chkE at h
    split at h
    · simp only [Bool.and_eq_true, decide_eq_true_eq] at h
      obtain ⟨⟨rfl, h1⟩, h2⟩ := h
      exact pe_op (opr_op K o) (pe_E K tk a _ h1) (pe_E K tk b _ h2)
    · cases h
  | .neg a, x, h => by
    unfold chkE at h
    split at h
    · exact pe_un un_neg (pe_E K tk a _ h)
    · cases h
  | .not a, x, h => by
    unfold chkE at h
    split at h
    · exact pe_not (pe_E K tk a _ h)
    · cases h
  | .and es, x, h => by
    unfold chkE at h
    split at h
    · exact pe_And K tk es _ _ h
    · cases h
  | .or es, x, h => by
    unfold chkE at h
    split at h
    · exact pe_Or K tk es _ _ h
    · cases h
  | .cmp o a b, x, h => by
    unfold chkE at h
    split at h
    · simp only [Bool.and_eq_true, decide_eq_true_eq] at h
      obtain ⟨⟨⟨rfl, h1⟩, h2⟩, h3⟩ := h
      exact pe_cmpR (opr_cmp K o) (pe_E K tk a _ h1) (pe_E K tk b _ h2) (set_behind h3)
    · cases h
  | .chain o p a b d, x, h => by
    unfold chkE at h
    split at h
    · simp only [Bool.and_eq_true, decide_eq_true_eq] at h
      obtain ⟨⟨⟨⟨⟨rfl, rfl⟩, h1⟩, h2⟩, h3⟩, h4⟩ := h
      exact pe_chain (opr_cmp K o) (opr_cmp K p) (pe_E K tk a _ h1) (pe_E K tk b _ h2) (pe_E K tk d _ h3) (set_behind h4)
    · cases h
  | .ife t a b, x, h => by
    unfold chkE at h
    split at h
    · simp only [Bool.and_eq_true, decide_eq_true_eq] at h
      exact pe_ifExp (pt_T K tk t _ h.1.1) (pe_E K tk a _ h.1.2) (pe_E K tk b _ h.2)
    · cases h
  | .tup es, x, h => by
    unfold chkE at h
    split at h
    · simp only [Bool.and_eq_true] at h
      exact pe_tup (pa_Es K tk es _ h.1 h.2)
    · cases h
  | .lst es, x, h => by
    unfold chkE at h
    split at h
    · simp only [Bool.and_eq_true] at h
      exact pe_lst (pa_Es K tk es _ h.1 h.2)
    · cases h
  | .newl es, x, h => by
    unfold chkE at h
    split at h
    · simp only [Bool.and_eq_true] at h
      exact pe_lst (pa_Es K tk es _ h.1 h.2)
    · cases h
  | .idx a b, x, h => by
    unfold chkE at h
    split at h
    · simp only [Bool.and_eq_true] at h
      have z := ix_U (X := X) K.un1
      rw [← K.K] at z
      exact pe_ix z (pe_E K tk a _ h.1.1) (pe_E K tk b _ h.1.2) (slice_plain h.2)
    · cases h
  | .sl a lo hi, x, h => by
    unfold chkE at h
    split at h
    · simp only [Bool.and_eq_true] at h
      have z := sl_U (X := X)
      rw [← K.K] at z
      exact pe_slice z (pe_E K tk a _ h.1.1) (po_O K tk lo _ h.1.2) (po_O K tk hi _ h.2)
    · cases h
  | .call k n es, x, h => by
    unfold chkE at h
    split at h
    · rename_i y p1 xs p2
      simp only [Bool.and_eq_true, decide_eq_true_eq] at h
      obtain ⟨⟨⟨h1, h2⟩, h3⟩, h4⟩ := h
      obtain ⟨g1, g2⟩ := glb_of K h1
      obtain ⟨j, a, fd, ps, F, R, e1, kp, bd⟩ := (K.fs k _ _ h2).ex
      cases xs with
      | nil =>
        show PE X _ (tCallS (spF g (de.F k) n) (WE W) (trEs g de W es))
        rw [nil_of es h3 rfl]
        exact pe_callS0 F R g1 e1 kp bd (fun σ => passAt tk σ) g2
      | cons e0 es0 =>
        have hs' := h4
        rw [List.all_cons, Bool.and_eq_true] at hs'
        exact pe_callS F R g1 e1 kp bd (fun σ => passAt tk σ) (pa_Es K tk es _ h3 h4) g2 (star_cons hs'.1) (back_any hs'.2)
    · cases h
  | .bi b es, x, h => by
    unfold chkE at h
    split at h
    · rename_i y p1 xs p2
      simp only [Bool.and_eq_true, decide_eq_true_eq] at h
      obtain ⟨⟨⟨⟨h1, h2⟩, h3⟩, h4⟩, h5⟩ := h
      subst h2
      cases xs with
      | nil => cases h5
      | cons e0 es0 => exact pe_bi K b h1 (pa_Es K tk es _ h3 h4) h4
    · cases h
  | .isi T a, x, h => by
    unfold chkE at h
    split at h
    · simp only [Bool.and_eq_true, decide_eq_true_eq] at h
      obtain ⟨⟨⟨⟨⟨⟨h1, h2⟩, h3⟩, h4⟩, h5⟩, h6⟩, h7⟩ := h
      subst h3
      subst h4
      obtain ⟨g1, g2, g3, g4⟩ := bltn_of K h1
      have z := call_isi (X := X)
      rw [← K.K] at z
      exact pe_callB z g1 g3 (by decide +kernel) (pa_cons (pe_E K tk a _ h6) (pa_cons (names_ne (x := "") K h2 h5) pa_nil (star_cons rfl)) (star_cons h7)) g4 g2 (star_cons h7) (back_any rfl)
    · cases h
  | .m1 m a b, x, h => by
    unfold chkE at h
    split at h
    · simp only [Bool.and_eq_true, decide_eq_true_eq] at h
      obtain ⟨⟨⟨⟨⟨h1, h2⟩, h3⟩, h4⟩, h5⟩, h6⟩ := h
      subst h1
      exact pe_sm K m (pe_E K tk a _ h2) (pe_E K tk b _ h3) h4 h5 h6
    · cases h
  | .js es, x, h => by
    unfold chkE at h
    split at h
    · rename_i xs p
      simp only [Bool.and_eq_true, decide_eq_true_eq] at h
      have z := pj_Js K tk es _ h.1
      match xs, h.2, z with
      | [], h2, _ => exact absurd h2 (by decide)
      | [_], h2, _ => exact absurd h2 (by simp)
      | a :: b :: r, _, z => exact pe_joined z
    · cases h
  | .lc i t q e own, x, h => by
    unfold chkE at h
    split at h
    · simp only [Bool.and_eq_true] at h
      obtain ⟨⟨⟨⟨⟨h1, h2⟩, h3⟩, h4⟩, h5⟩, h6⟩ := h
      exact pe_lc K.calm K.nd (pi_I K tk _ i _ h1) (env_sc K h2) (fun s H C cl fp => pg_G (K.blk s H _ C cl fp) t _ h3) (fun s H C cl fp => pt_C (K.blk s H _ C cl fp) q _ h4) (fun s H C cl fp => pe_E (K.blk s H _ C cl fp) takes0 e _ h5) (set_iter h6)
    · cases h
  | .lcN i t q e own, x, h => by
    unfold chkE at h
    split at h
    · simp only [Bool.and_eq_true] at h
      obtain ⟨⟨⟨⟨⟨h1, h2⟩, h3⟩, h4⟩, h5⟩, h6⟩ := h
      exact pe_lc K.calm K.nd (pi_I K tk _ i _ h1) (env_sc K h2) (fun s H C cl fp => pg_G (K.blk s H _ C cl fp) t _ h3) (fun s H C cl fp => pt_C (K.blk s H _ C cl fp) q _ h4) (fun s H C cl fp => pe_E (K.blk s H _ C cl fp) takes0 e _ h5) (set_iter h6)
    · cases h
  | .dnew, x, h => by
    unfold chkE at h
    split at h
    · exact pe_dnewK
    · cases h
  | .disp ps, x, h => by
    unfold chkE at h
    split at h
    · simp only [Bool.and_eq_true, decide_eq_true_eq] at h
      obtain ⟨z1, z2, z3⟩ := pp_Ps K tk ps _ _ h.1.1
      exact pe_disp (z1 _) z2 z3 h.1.2 h.2
    · cases h
  | .bm m a es, x, h => by
    unfold chkE at h
    split at h
    · simp only [Bool.and_eq_true, decide_eq_true_eq] at h
      obtain ⟨⟨⟨⟨⟨⟨h1, h2⟩, h3⟩, h4⟩, h5⟩, h6⟩, h7⟩ := h
      subst h1
      exact pe_lm K m (pe_E K tk a _ h2) (pa_Es K tk es _ h3 h4) (nil_of es h3) h4 h5 h6 h7
    · cases h
  | .fz a, x, h => pe_E K tk a x h
  | .fm a, x, h => by
    unfold chkE at h
    split at h
    · exact pe_fs1 (pe_fmt (pe_E K tk a _ h))
    · cases h
  | .wall, x, h => ⟨fun _ _ _ _ _ _ z => z.elim⟩
theorem pa_Es {X : Cx} {g : G} {de : De} {c : Cn} {W : WX} (K : Ctx X g de c) (tk : Takes X W) : ∀ (es : Es) (xs : List Expr), chkEs c es xs = true → xs.all notStar = true → PA X xs (trEs g de W es)
  | .nil, xs, h, _ => by
    cases xs with
    | nil => exact pa_nil
    | cons _ _ => cases h
  | .cons e r, xs, h, hs => by
    cases xs with
    | nil => cases h
    | cons x rest =>
      have h' : (chkE c e x && chkEs c r rest) = true := h
      obtain ⟨h1, h2⟩ := Bool.and_eq_true_iff.mp h'
      rw [List.all_cons, Bool.and_eq_true] at hs
      exact pa_cons (pe_E K tk e x h1) (pa_Es K tk r rest h2 hs.2) (star_cons hs.1)
theorem pe_And {X : Cx} {g : G} {de : De} {c : Cn} {W : WX} (K : Ctx X g de c) (tk : Takes X W) : ∀ (es : Es) (xs : List Expr) (p : Pos), chkEs c es xs = true → PE X (.BoolOp .And xs p) (trAnd g de W es)
  | .nil, xs, p, h => ⟨fun _ _ _ _ _ _ z => z.elim⟩
  | .cons e r, xs, p, h => by
    cases xs with
    | nil => cases h
    | cons x rest =>
      have h' : (chkE c e x && chkEs c r rest) = true := h
      obtain ⟨h1, h2⟩ := Bool.and_eq_true_iff.mp h'
      have k1 := pe_E (W := W) K tk e x h1
      have k2 := pe_And (W := W) K tk r rest p h2
      show PE X _ (if r.isNil then trE g de W e else tAndV (trE g de W e) (trAnd g de W r))
      cases rest with
      | nil =>
        cases r with
        | nil => exact pe_one k1
        | cons _ _ => cases h2
      | cons y ys =>
        cases r with
        | nil => cases h2
        | cons _ _ => exact pe_and k1 k2
theorem pe_Or {X : Cx} {g : G} {de : De} {c : Cn} {W : WX} (K : Ctx X g de c) (tk : Takes X W) : ∀ (es : Es) (xs : List Expr) (p : Pos), chkEs c es xs = true → PE X (.BoolOp .Or xs p) (trOr g de W es)
  | .nil, xs, p, h => ⟨fun _ _ _ _ _ _ z => z.elim⟩
  | .cons e r, xs, p, h => by
    cases xs with
    | nil => cases h
    | cons x rest =>
      have h' : (chkE c e x && chkEs c r rest) = true := h
      obtain ⟨h1, h2⟩ := Bool.and_eq_true_iff.mp h'
      have k1 := pe_E (W := W) K tk e x h1
      have k2 := pe_Or (W := W) K tk r rest p h2
      show PE X _ (if r.isNil then trE g de W e else tOrV (trE g de W e) (trOr g de W r))
      cases rest with
      | nil =>
        cases r with
        | nil => exact pe_one k1
        | cons _ _ => cases h2
      | cons y ys =>
        cases r with
        | nil => cases h2
        | cons _ _ => exact pe_or k1 k2
theorem po_O {X : Cx} {g : G} {de : De} {c : Cn} {W : WX} (K : Ctx X g de c) (tk : Takes X W) : ∀ (o : Oe) (x : Option Expr), chkO c o x = true → PO X x (trO g de W o)
  | .no, x, h => by
    cases x with
    | none => exact po_none
    | some _ => cases h
  | .so e, x, h => by
    cases x with
    | none => cases h
    | some y => exact po_some (pe_E K tk e y h)
theorem pt_C {X : Cx} {g : G} {de : De} {c : Cn} (K : Ctx X g de c) : ∀ (o : Ot) (xs : List Expr), chkC c o xs = true → PTs X xs (trC g de o)
  | .no, xs, h => by
    cases xs with
    | nil => exact pts_nil
    | cons _ _ => cases h
  | .so t, xs, h => by
    match xs, h with
    | [], h => cases h
    | [x], h => exact pts_one (pt_T K takes0 t x h)
    | _ :: _ :: _, h => cases h
theorem pj_Js {X : Cx} {g : G} {de : De} {c : Cn} {W : WX} (K : Ctx X g de c) (tk : Takes X W) : ∀ (es : Js) (xs : List Expr), chkJs c es xs = true → PJ X xs (trJs g de W es)
  | .nil, xs, h => by
    cases xs with
    | nil => exact .nil
    | cons _ _ => cases h
  | .txt z r, xs, h => by
    unfold chkJs at h
    split at h
    · simp only [Bool.and_eq_true, decide_eq_true_eq] at h
      obtain ⟨rfl, h2⟩ := h
      exact .cons pe_str (pj_Js K tk r _ h2)
    · cases h
  | .fmt e r, xs, h => by
    unfold chkJs at h
    split at h
    · simp only [Bool.and_eq_true] at h
      exact .cons (pe_fmt (pe_E K tk e _ h.1)) (pj_Js K tk r _ h.2)
    · cases h
theorem pp_Ps {X : Cx} {g : G} {de : De} {c : Cn} {W : WX} (K : Ctx X g de c) (tk : Takes X W) : ∀ (ps : Ps) (ks : List (Option Expr)) (vs : List Expr), chkPs c ps ks vs = true → (∀ pos, PPs X pos ks vs (trPs g de W ps)) ∧ ks.all (·.isSome) = true ∧ ks.length = vs.length
  | .nil, ks, vs, h => by
    cases ks with
    | nil =>
      cases vs with
      | nil => exact ⟨fun _ => pps_nil, rfl, rfl⟩
      | cons _ _ => cases h
    | cons _ _ => cases h
  | .cons k v r, ks, vs, h => by
    unfold chkPs at h
    split at h
    · simp only [Bool.and_eq_true] at h
      obtain ⟨z1, z2, z3⟩ := pp_Ps K tk r _ _ h.2
      refine ⟨fun pos => pps_cons (pe_E K tk k _ h.1.1) (pe_E K tk v _ h.1.2) (z1 pos), ?_, by rw [List.length_cons, List.length_cons, z3]⟩
      rw [List.all_cons, z2]
      rfl
    · cases h
theorem pi_I {X : Cx} {g : G} {de : De} {c : Cn} {W : WX} (K : Ctx X g de c) (tk : Takes X W) (tg : Expr) : ∀ (i : It) (x : Expr), chkI c tg i x = true → PI X tg x (trI g de W i)
  | .w e, x, h => by
    have z := pi_any (tg := tg) (pe_E K tk e x h)
    rw [← K.K] at z
    exact z
  | .rng es, x, h => by
    unfold chkI at h
    split at h
    · rename_i y p1 xs p2
      simp only [Bool.and_eq_true, Bool.or_eq_true, decide_eq_true_eq] at h
      obtain ⟨⟨⟨⟨h1, h2⟩, h3⟩, h4⟩, h5⟩ := h
      subst h2
      obtain ⟨g1, g2, g3, g4⟩ := bltn_of K h1
      have k := pa_Es (W := W) K tk es xs h3 h4
      have hl := chkEs_len es h3
      show PI X tg _ (if es.len = 1 then iRng1 (trEs g de W es) else iRng2 (trEs g de W es))
      match xs, h4, h5, k, hl with
      | [], _, h5, _, _ => exact absurd h5 (by decide)
      | [a], h4, _, k, hl =>
        have e1 : es.len = 1 := hl.symm
        rw [if_pos e1]
        rw [List.all_cons, Bool.and_eq_true] at h4
        exact pi_range1 g1 g3 k (star_cons h4.1)
      | [a, b], h4, _, k, hl =>
        have e1 : es.len = 2 := hl.symm
        rw [if_neg (by omega)]
        rw [List.all_cons, Bool.and_eq_true, List.all_cons, Bool.and_eq_true] at h4
        exact pi_range2 g1 g3 k (by rw [star_cons h4.1, star_cons h4.2.1]; rfl) (star_cons h4.2.1)
      | _ :: _ :: _ :: _, _, h5, _, _ => simp at h5
    · cases h
  | .enum es, x, h => by
    unfold chkI at h
    split at h
    · simp only [Bool.and_eq_true, decide_eq_true_eq] at h
      obtain ⟨⟨⟨⟨h1, h2⟩, h3⟩, h4⟩, h5⟩ := h
      subst h2
      obtain ⟨g1, g2, g3, g4⟩ := bltn_of K h1
      split at h5
      · show PI X _ _ (iEnum g.K (trEs g de W es))
        rw [K.K]
        exact pi_enum g1 g3 (pa_Es (W := W) K tk es _ h3 (by rw [List.all_cons, h4]; rfl)) (star_cons h4)
      · cases h5
    · cases h
theorem pt_T {X : Cx} {g : G} {de : De} {c : Cn} {W : WX} (K : Ctx X g de c) (tk : Takes X W) : ∀ (e : T) (x : Expr), chkT c e x = true → PT X x (trT g de W e)
  | .and es, x, h => by
    unfold chkT at h
    split at h
    · exact (pw_TA K tk es _ _ h).pt
    · cases h
  | .or es, x, h => by
    unfold chkT at h
    split at h
    · exact (pw_TO K tk es _ _ h).pt
    · cases h
  | .not a, x, h => by
    unfold chkT at h
    split at h
    · exact pt_not (pt_T K tk a _ h)
    · cases h
  | .cmp o a b, x, h => by
    unfold chkT at h
    split at h
    · simp only [Bool.and_eq_true, decide_eq_true_eq] at h
      obtain ⟨⟨⟨rfl, h1⟩, h2⟩, h3⟩ := h
      exact pt_cmpR (opr_cmp K o) (pe_E K tk a _ h1) (pe_E K tk b _ h2) (set_behind h3)
    · cases h
  | .chain o p a b d, x, h => by
    unfold chkT at h
    split at h
    · simp only [Bool.and_eq_true, decide_eq_true_eq] at h
      obtain ⟨⟨⟨⟨⟨rfl, rfl⟩, h1⟩, h2⟩, h3⟩, h4⟩ := h
      exact pt_chain (opr_cmp K o) (opr_cmp K p) (pe_E K tk a _ h1) (pe_E K tk b _ h2) (pe_E K tk d _ h3) (set_behind h4)
    · cases h
  | .e a, x, h => by
    have h' : (chkE c a x && plainT x) = true := h
    obtain ⟨h1, h2⟩ := Bool.and_eq_true_iff.mp h'
    have z := pt_truth (pe_E (W := W) K tk a x h1) (plain_true h2)
    rw [← K.K] at z
    exact z
theorem pw_TA {X : Cx} {g : G} {de : De} {c : Cn} {W : WX} (K : Ctx X g de c) (tk : Takes X W) : ∀ (es : Ts) (xs : List Expr) (p : Pos), chkTs c es xs = true → PW X (.BoolOp .And xs p) (trTA g de W es)
  | .nil, xs, p, h => ⟨fun _ _ _ _ _ _ _ z => z.elim⟩
  | .cons e r, xs, p, h => by
    cases xs with
    | nil => cases h
    | cons x rest =>
      have h' : (chkT c e x && chkTs c r rest) = true := h
      obtain ⟨h1, h2⟩ := Bool.and_eq_true_iff.mp h'
      have k1 := pt_T (W := W) K tk e x h1
      have k2 := pw_TA (W := W) K tk r rest p h2
      show PW X _ (if r.isNil then trT g de W e else tAnd (trT g de W e) (trTA g de W r))
      cases rest with
      | nil =>
        cases r with
        | nil => exact pw_and1 k1
        | cons _ _ => cases h2
      | cons y ys =>
        cases r with
        | nil => cases h2
        | cons _ _ => exact pw_and k1 k2
theorem pw_TO {X : Cx} {g : G} {de : De} {c : Cn} {W : WX} (K : Ctx X g de c) (tk : Takes X W) : ∀ (es : Ts) (xs : List Expr) (p : Pos), chkTs c es xs = true → PW X (.BoolOp .Or xs p) (trTO g de W es)
  | .nil, xs, p, h => ⟨fun _ _ _ _ _ _ _ z => z.elim⟩
  | .cons e r, xs, p, h => by
    cases xs with
    | nil => cases h
    | cons x rest =>
      have h' : (chkT c e x && chkTs c r rest) = true := h
      obtain ⟨h1, h2⟩ := Bool.and_eq_true_iff.mp h'
      have k1 := pt_T (W := W) K tk e x h1
      have k2 := pw_TO (W := W) K tk r rest p h2
      show PW X _ (if r.isNil then trT g de W e else tOr (trT g de W e) (trTO g de W r))
      cases rest with
      | nil =>
        cases r with
        | nil => exact pw_or1 k1
        | cons _ _ => cases h2
      | cons y ys =>
        cases r with
        | nil => cases h2
        | cons _ _ => exact pw_or k1 k2
end
end Mi

set_option linter.all false
set_option maxRecDepth 100000
set_option maxHeartbeats 8000000
/-! Mi: statements as data. -/
namespace Mi
open PySem PySem.Spec PyProof.Rows L2
mutual
inductive B where
  | nx | asg (t : Tg) (e : E) | sub (o i e : E) | aug (i : Nat) (o : Operator) (e : E) | ex (e : E) | rt (e : E) | rtN
  | iff (t : T) (a b : Bs) | wh (t : T) (b : Bs) | fr (t : Tg) (i : It) (b : Bs) | brk | cnt | rs (k : Nat) | par (i j : Nat) (es : Es) | wall
inductive Bs where
  | nil | cons (b : B) (r : Bs)
end
/-! ### op= -/
def rIpU : Operator → R2
  | .Add => fun x y H Q => ipI (fun i j => i + j) x y H Q ∨ ∃ i j, x = .str i ∧ y = .str j ∧ i.length + j.length ≤ sizeLine ∧ Q (.str (i ++ j)) H
  | .Sub => ipI fun i j => i - j
  | _ => fun _ _ _ _ => False
def fIp : Operator → D → D → M D
  | .Add => fun d e => match d, e with
    | .int i, .int j => ret (.int (i + j))
    | .str x, .str y => if lenOk (x.length + y.length) then ret (.str (x ++ y)) else stuck
    | _, _ => stuck
  | .Sub => fun d e => match d, e with
    | .int i, .int j => ret (.int (i - j))
    | _, _ => stuck
  | _ => fun _ _ => stuck
theorem rr_ip {g : G} {W : WX} (o : Operator) : RR2 g W (rIpU o) (fIp o) := by
  cases o
  case Add =>
    intro n w s σ H x y d e Q I hx hy h
    unfold fIp at h
    simp only at h
    split at h
    · exact .inl ⟨_, _, hx, hy, h _ w H I (Le.refl _ _) rfl⟩
    · rename_i a b
      cases z : lenOk (a.length + b.length) with
      | false =>
        rw [z] at h
        exact h.elim
      | true =>
        rw [z] at h
        exact .inr ⟨a, b, hx, hy, lenOk_of z, h _ w H I (Le.refl _ _) rfl⟩
    · exact h.elim
  case Sub =>
    intro n w s σ H x y d e Q I hx hy h
    unfold fIp at h
    simp only at h
    split at h
    · exact ⟨_, _, hx, hy, h _ w H I (Le.refl _ _) rfl⟩
    · exact h.elim
  all_goals exact fun n w s σ H x y d e Q I hx hy h => h.elim
theorem pip_U {X : Cx} (o : Operator) : PIp X o (rIpU o) := by
  cases o
  case Add =>
    intro pins s σ H x y v u Q I rx ry h
    rcases h with h | h
    · exact ip_add pins s σ H x y v u Q I rx ry h
    · exact iop_add_str pins s σ H x y v u Q I rx ry h
  case Sub => exact ip_sub
  all_goals exact fun pins s σ H x y v u Q I rx ry h => h.elim

mutual
def trB (g : G) (de : De) (W : WX) : B → TS
  | .nx => tNext
  | .asg t e => tAsg (trE g de W e) (trG g.K t)
  | .sub o i e => tAsg (trE g de W e) (gSub (trE g de W o) (trE g de W i) rSetU)
  | .aug i o e => tAug i (trE g de W e) (rIpU o)
  | .ex e => tDrop (trE g de W e)
  | .rt e => tRet (trE g de W e)
  | .rtN => tRetN
  | .iff t a b => tIfS (trT g de W t) (trBs g de W a) (trBs g de W b)
  | .wh t b => tWhile (trT g de W t) (trBs g de W b)
  | .fr t i b => tFor (trI g de W i) (trG g.K t) (trBs g de W b)
  | .brk => tBreak
  | .cnt => tCont
  | .rs k => fun _ σ H => W (.ref (g.C k)) none σ H
  | .par i j es => tPar i j (trEs g de W es)
  | .wall => tNever
def trBs (g : G) (de : De) (W : WX) : Bs → TS
  | .nil => tNext
  | .cons b r => tSeq (trB g de W b) (trBs g de W r)
end
mutual
noncomputable def dnB (de : De) : B → M Fl
  | .nx => sNext
  | .asg t e => sAsg (dnE de e) (dnG t)
  | .sub o i e => sSub (dnE de o) (dnE de i) (dnE de e)
  | .aug i o e => sAug i (fIp o) (dnE de e)
  | .ex e => sDrop (dnE de e)
  | .rt e => sRet (dnE de e)
  | .rtN => sRetN
  | .iff t a b => sIf (dnT de t) (dnBs de a) (dnBs de b)
  | .wh t b => whl (dnT de t) (dnBs de b)
  | .fr t i b => sFor (dnI de i) (dnG t) (dnBs de b)
  | .brk => sBrk
  | .cnt => sCnt
  | .rs k => sRaise k
  | .par i j es => sPar i j (dnEs de es)
  | .wall => stuck
noncomputable def dnBs (de : De) : Bs → M Fl
  | .nil => sNext
  | .cons b r => sSeq (dnB de b) (dnBs de r)
end
theorem rs_stuck {g : G} {W : WX} {t : TS} : RS g W t stuck := fun n w s σ H d I h => h.elim
mutual
theorem rs_B {g : G} {de : De} (hf : ∀ k, FnSl (de.F k)) (W : WX) : ∀ b : B, RS g W (trB g de W b) (dnB de b)
  | .nx => rs_next
  | .asg t e => rs_asg (re_E hf W e) (rg_G t) (nox_G t)
  | .sub o i e => rs_sub (re_E hf W e) (re_E hf W o) (re_E hf W i)
  | .aug i o e => rs_aug (re_E hf W e) (rr_ip o)
  | .ex e => rs_drop (re_E hf W e)
  | .rt e => rs_ret (re_E hf W e)
  | .rtN => rs_retN
  | .iff t a b => rs_if (rt_T hf W t) (rs_Bs hf W a) (rs_Bs hf W b)
  | .wh t b => rs_while (rt_T hf W t) (rs_Bs hf W b)
  | .fr t i b => rs_for (ri_I hf W i) (rg_G t) (nox_G t) (rs_Bs hf W b)
  | .brk => rs_brk
  | .cnt => rs_cnt
  | .rs k => rs_raise k
  | .par i j es => rs_par (ra_Es hf W es)
  | .wall => rs_stuck
theorem rs_Bs {g : G} {de : De} (hf : ∀ k, FnSl (de.F k)) (W : WX) : ∀ b : Bs, RS g W (trBs g de W b) (dnBs de b)
  | .nil => rs_next
  | .cons b r => rs_seq (rs_B hf W b) (rs_Bs hf W r)
end

/-! ### checked -/
def notComp : Expr → Bool
  | .ListComp _ _ _ _ => false
  | .SetComp _ _ _ _ => false
  | .DictComp _ _ _ _ _ => false
  | _ => true
def isLC : Expr → Bool
  | .ListComp _ _ _ _ => true
  | _ => false
def notTup : Expr → Bool
  | .Tuple _ _ _ => false
  | .List _ _ => false
  | _ => true
def isNm : Expr → Bool
  | .Name _ _ => true
  | _ => false
theorem sw_comp {e : Expr} {t : Option Expr} {l : Nat} {env : Env} (h : notComp e = true) : swapsWith e t l env = pure false := by
  cases e <;> first | rfl | cases h
theorem sw_tgt {e tg : Expr} {l : Nat} {env : Env} (h : isNm tg = false) : swapsWith e (some tg) l env = pure false := by
  cases e <;> first | rfl | (cases tg <;> first | rfl | cases h)
theorem st_tgt {e tg : Expr} {env : Env} (h : notTup tg = true) : swappedStores [tg] e env = pure none := by
  cases tg <;> first | rfl | cases h
theorem st_val {e tg : Expr} {env : Env} (h : notTup e = true) : swappedStores [tg] e env = pure none := by
  cases tg <;> cases e <;> first | rfl | cases h
/-- a comprehension whose name is stored on the way -/
def swName (c : Cn) (t : Str) (q : Pos) (sc : Scope) (p : Pos) : Bool := (if c.sc.kind.isAnnotationScope then ScopeKind.function else c.sc.kind) == .function && c.sc.names.lookup t == some .local && q.line == p.line && !(sc.names.any fun (n, k) => n == t && (k == .local || k == .cell))
theorem sw_name {X : Cx} {g : G} {de : De} {c : Cn} (K : Ctx X g de c) {el : Expr} {gs : List Comprehension} {sc : Scope} {p q : Pos} {t : Str} {l : Nat} : swapsWith (.ListComp el gs sc p) (some (.Name t q)) l X.env = pure (swName c t q sc p) := by
  unfold swName
  rw [← K.sc]
  rfl
/-- local names a, b and two values -/
def parOk (c : Cn) (i j : Nat) (x y : Str) (px py : Pos) (a b : Expr) : Bool :=
  decide (c.N[i]? = some x) && decide (c.N[j]? = some y) && decide (i ≠ j) && decide (c.sc.names.lookup x = some .local) && decide (c.sc.names.lookup y = some .local) && decide ((if c.sc.kind.isAnnotationScope then ScopeKind.function else c.sc.kind) = .function) && decide (py.line = px.line) && decide (x ≠ y)
    && notStar a && notStar b && !([a, b].all (foldedForSure 8)) && !([a, b].all (constantsAlone 8))
mutual
def chkB (c : Cn) : B → Stmt → Bool
  | .nx, x => match x with
    | .Pass _ => true
    | .Expr (.Constant (.str _) _ _) _ => true
    | _ => false
  | .asg t e, x => match x with
    | .Assign [tg] v _ => chkG c t tg && chkE c e v && (isNm tg || notTup v) && (notComp v || isLC v)
    | _ => false
  | .sub o i e, x => match x with
    | .Assign [.Subscript a b _] v _ => chkE c o a && chkE c i b && chkE c e v && notSlice b
    | _ => false
  | .aug i o e, x => match x with
    | .AugAssign (.Name y _) q v _ => decide (o = q) && locI c i y && chkE c e v
    | _ => false
  | .ex e, x => match x with
    | .Expr v _ => chkE c e v && notComp v
    | _ => false
  | .rt e, x => match x with
    | .Return (some v) _ => chkE c e v
    | _ => false
  | .rtN, x => match x with
    | .Return none _ => true
    | _ => false
  | .iff t a b, x => match x with
    | .If u xs ys _ => chkT c t u && chkBs c a xs && chkBs c b ys
    | _ => false
  | .wh t b, x => match x with
    | .While u xs [] _ => chkT c t u && chkBs c b xs
    | _ => false
  | .fr t i b, x => match x with
    | .For tg it xs [] _ => chkG c t tg && chkI c tg i it && chkBs c b xs && notSet it
    | _ => false
  | .brk, x => match x with
    | .Break _ => true
    | _ => false
  | .cnt, x => match x with
    | .Continue _ => true
    | _ => false
  | .rs k, x => match x with
    | .Raise (some (.Call (.Name y _) [.Constant (.str _) _ _] [] _)) none _ => glb c y && decide (c.cl[k]? = some y)
    | _ => false
  | .par i j es, x => match x with
    | .Assign [.Tuple [.Name y py, .Name z pz] _ _] (.Tuple [a, b] _ _) _ => parOk c i j y z py pz a b && chkEs c es [a, b]
    | _ => false
  | .wall, _ => true
def chkBs (c : Cn) : Bs → List Stmt → Bool
  | .nil, xs => xs.isEmpty
  | .cons b r, xs => match xs with
    | x :: rest => chkB c b x && chkBs c r rest
    | [] => false
end
end Mi

set_option linter.all false
set_option maxRecDepth 100000
set_option maxHeartbeats 8000000
/-! Mi: checked statements are read so. -/
namespace Mi
open PySem PySem.Spec PyProof.Rows L2
section
variable {X : Cx} {g : G} {de : De} {c : Cn} {W : WX}
theorem names_par {x y : Str} {px py : Pos} {a b : Expr} {kt k2 : Nat} {pt pt2 : Pos} {env : Env} (h1 : env.kindOf x = some .local) (h2 : env.kindOf y = some .local) (hb : env.blockKind = .function) (hl : py.line = px.line) (hn : x ≠ y)
    (sa : notStar a = true) (sb : notStar b = true) (f1 : ([a, b].all (foldedForSure 8)) = false) (f2 : ([a, b].all (constantsAlone 8)) = false) :
    swappedStores [.Tuple [.Name x px, .Name y py] kt pt] (.Tuple [a, b] k2 pt2) env = pure (some [x, y]) := by
  have hl2 : py.line = (Expr.Name x px).pos.line := hl
  have hl3 : px.line = (Expr.Name x px).pos.line := rfl
  have hxy : (x == y) = false := by simpa using hn
  have hyx : (y == x) = false := by simpa using hn.symm
  unfold swappedStores
  simp [hb, f1, f2, List.filterMap_cons, h1, h2, ← hl2, ← hl3, hl]
  rw [if_neg (by
    intro h
    rcases h with h | h
    · cases a <;> first | (cases h; done) | cases sa
    · cases b <;> first | (cases h; done) | cases sb)]
  simp [List.eraseDups, List.eraseDupsBy, List.eraseDupsBy.loop, hxy, hyx]
theorem sole_tgt {e tg : Expr} {l : Nat} {env : Env} (h : isNm tg = false) : swapsWithSole [tg] e l env = pure false := sw_tgt (l := l) h
theorem sole_comp {e tg : Expr} {l : Nat} {env : Env} (h : notComp e = true) : swapsWithSole [tg] e l env = pure false := sw_comp (t := some tg) (l := l) h
theorem assign_sub {o i : Expr} {pos : Pos} {env : Env} (h : notSlice i = true) : ∀ v, assign (.Subscript o i pos) env v = (do
      let ov ← holding [v] (eval o env)
      let iv ← holding [v, ov] (eval i env)
      standAt pos
      holding [v, ov, iv] (setItem ov iv v)
      release [v, ov, iv] []) := by
  intro v
  cases i <;> first | rfl | cases h
/-- name = [..] on one line -/
theorem set_lc (K : Ctx X g de c) (tk : Takes X W) {i : Nat} {y : Str} {el : Expr} {gs : List Comprehension} {sc : Scope} {q pp p : Pos} (hi : c.N[i]? = some y) (hy : X.env.scope.names.lookup y = some .local)
    (hsw : swapsWith (.ListComp el gs sc pp) (some (.Name y q)) p.line X.env = pure true) : ∀ e : E, chkE c e (.ListComp el gs sc pp) = true → PS X (.Assign [.Name y q] (.ListComp el gs sc pp) p) (tAsg (trE g de W e) (gName i))
  | .fz a, h => set_lc K tk hi hy hsw a h
  | .lc it tt q2 e2 own, h => by
    unfold chkE at h
    split at h
    · rename_i heq
      cases heq
      simp only [Bool.and_eq_true] at h
      obtain ⟨⟨⟨⟨⟨h1, h2⟩, h3⟩, h4⟩, h5⟩, h6⟩ := h
      exact ps_setLc K.calm K.nd (by rw [K.N]; exact hi) hy hsw (pi_I K tk _ it _ h1) (env_sc K h2) (fun s H C cl fp => pg_G (K.blk s H _ C cl fp) tt _ h3) (fun s H C cl fp => pt_C (K.blk s H _ C cl fp) q2 _ h4) (fun s H C cl fp => pe_E (K.blk s H _ C cl fp) takes0 e2 _ h5) (set_iter h6)
    · cases h
  | .lcN it tt q2 e2 own, h => by
    unfold chkE at h
    split at h
    · rename_i heq
      cases heq
      simp only [Bool.and_eq_true] at h
      obtain ⟨⟨⟨⟨⟨h1, h2⟩, h3⟩, h4⟩, h5⟩, h6⟩ := h
      exact ps_setLc K.calm K.nd (by rw [K.N]; exact hi) hy hsw (pi_I K tk _ it _ h1) (env_sc K h2) (fun s H C cl fp => pg_G (K.blk s H _ C cl fp) tt _ h3) (fun s H C cl fp => pt_C (K.blk s H _ C cl fp) q2 _ h4) (fun s H C cl fp => pe_E (K.blk s H _ C cl fp) takes0 e2 _ h5) (set_iter h6)
    · cases h
  | .v _, h => by cases h
  | .fv _, h => by cases h
  | .int _, h => by cases h
  | .str _, h => by cases h
  | .bl _, h => by cases h
  | .non, h => by cases h
  | .gl _, h => by cases h
  | .op _ _ _, h => by cases h
  | .neg _, h => by cases h
  | .not _, h => by cases h
  | .and _, h => by cases h
  | .or _, h => by cases h
  | .cmp _ _ _, h => by cases h
  | .chain _ _ _ _ _, h => by cases h
  | .ife _ _ _, h => by cases h
  | .tup _, h => by cases h
  | .lst _, h => by cases h
  | .newl _, h => by cases h
  | .idx _ _, h => by cases h
  | .sl _ _ _, h => by cases h
  | .call _ _ _, h => by cases h
  | .bi _ _, h => by cases h
  | .isi _ _, h => by cases h
  | .m1 _ _ _, h => by cases h
  | .js _, h => by cases h
  | .dnew, h => by cases h
  | .disp _, h => by cases h
  | .bm _ _ _, h => by cases h
  | .fm _, h => by cases h
  | .wall, h => ⟨fun _ _ _ _ _ _ z => z.elim⟩
theorem takes_names (K : Ctx X g de c) {k : Nat} {y : Str} (h : c.cl[k]? = some y) : X.mg y = some (.ref (g.C k)) ∧ ExcC X.K (g.C k) := K.cl k y h
end
mutual
theorem ps_B {X : Cx} {g : G} {de : De} {c : Cn} {W : WX} (K : Ctx X g de c) (tk : Takes X W) (po : PassesOwn (model X.prog X.w) X.A X.env X.xe) : ∀ (b : B) (x : Stmt), chkB c b x = true → PS X x (trB g de W b)
  | .nx, x, h => by
    unfold chkB at h
    split at h
    · exact ps_pass
    · exact ps_doc
    · cases h
  | .asg t e, x, h => by
    unfold chkB at h
    split at h
    · rename_i tg v p
      simp only [Bool.and_eq_true, Bool.or_eq_true] at h
      obtain ⟨⟨⟨h1, h2⟩, h3⟩, h4⟩ := h
      have k1 := pe_E (W := W) K tk e v h2
      have gen : ∀ {tg : Expr}, chkG c t tg = true → (∀ l, swapsWith v (some tg) l X.env = pure false) → swappedStores [tg] v X.env = pure none → PS X (.Assign [tg] v p) (tAsg (trE g de W e) (trG g.K t)) := fun {tg} h1 sw st =>
        ps_asg k1 (pg_G K t tg h1) (sw _) st (by rw [assign_star (chkG_star t h1)]; rfl)
      cases hn : isNm tg with
      | false =>
        rw [hn] at h3
        exact gen h1 (fun l => sw_tgt hn) (st_val (by simpa using h3))
      | true =>
        have st : swappedStores [tg] v X.env = pure none := st_tgt (by cases tg <;> first | rfl | cases hn)
        cases hc : notComp v with
        | true => exact gen h1 (fun l => sw_comp hc) st
        | false =>
          cases tg with
          | Name y q =>
            cases v with
            | ListComp el gs sc pp =>
              cases hs : swName c y q sc pp with
              | false => exact gen h1 (fun l => by rw [sw_name K, hs]) st
              | true =>
                have hy : X.env.scope.names.lookup y = some .local := by
                  unfold swName at hs
                  simp only [Bool.and_eq_true] at hs
                  rw [K.sc]
                  exact eq_of_beq hs.1.1.2
                cases t with
                | tup ts => cases h1
                | s i =>
                  have h1' : locI c i y = true := h1
                  unfold locI at h1'
                  simp only [Bool.and_eq_true, decide_eq_true_eq] at h1'
                  exact set_lc K tk h1'.1 hy (by rw [sw_name K, hs]) e h2
            | SetComp _ _ _ _ => simp [notComp, isLC] at h4
            | DictComp _ _ _ _ _ => simp [notComp, isLC] at h4
            | _ => cases hc
          | _ => cases hn
    · cases h
  | .sub o i e, x, h => by
    unfold chkB at h
    split at h
    · simp only [Bool.and_eq_true] at h
      obtain ⟨⟨⟨h1, h2⟩, h3⟩, h4⟩ := h
      exact ps_asg (pe_E K tk e _ h3) (pg_sub (pe_E K tk o _ h1) (pe_E K tk i _ h2) (set_U K.un1) (assign_sub h4)) (hs := sole_tgt rfl) (st_tgt rfl)
    · cases h
  | .aug i o e, x, h => by
    unfold chkB at h
    split at h
    · simp only [Bool.and_eq_true, decide_eq_true_eq] at h
      obtain ⟨⟨rfl, h1⟩, h2⟩ := h
      unfold locI at h1
      simp only [Bool.and_eq_true, Bool.or_eq_true, decide_eq_true_eq] at h1
      refine ps_aug K.nd (by rw [K.N]; exact h1.1) ?_ (pe_E K tk e _ h2) (pip_U o) ?_
      · unfold L2.Loc
        rw [K.sc]
        rcases h1.2 with z | z
        · exact .inl z
        · exact .inr z.1
      · rcases h1.2 with z | z
        · exact .inr (by rw [K.sc]; exact z)
        · exact .inl (K.fn _ z.2)
    · cases h
  | .ex e, x, h => by
    unfold chkB at h
    split at h
    · simp only [Bool.and_eq_true] at h
      exact ps_expr (pe_E K tk e _ h.1) (sw_comp h.2)
    · cases h
  | .rt e, x, h => by
    unfold chkB at h
    split at h
    · exact ps_ret (pe_E K tk e _ h)
    · cases h
  | .rtN, x, h => by
    unfold chkB at h
    split at h
    · exact ps_retN
    · cases h
  | .iff t a b, x, h => by
    unfold chkB at h
    split at h
    · simp only [Bool.and_eq_true] at h
      exact ps_if (pt_T K tk t _ h.1.1) (pss_Bs K tk po a _ h.1.2) (pss_Bs K tk po b _ h.2)
    · cases h
  | .wh t b, x, h => by
    unfold chkB at h
    split at h
    · simp only [Bool.and_eq_true] at h
      exact ps_while po (pt_T K tk t _ h.1) (pss_Bs K tk po b _ h.2)
    · cases h
  | .fr t i b, x, h => by
    unfold chkB at h
    split at h
    · simp only [Bool.and_eq_true] at h
      obtain ⟨⟨⟨h1, h2⟩, h3⟩, h4⟩ := h
      exact ps_for po K.calm (pi_I K tk _ i _ h2) (pg_G K t _ h1) (pss_Bs K tk po b _ h3) (set_iter h4)
    · cases h
  | .brk, x, h => by
    unfold chkB at h
    split at h
    · exact ps_break
    · cases h
  | .cnt, x, h => by
    unfold chkB at h
    split at h
    · exact ps_continue
    · cases h
  | .rs k, x, h => by
    unfold chkB at h
    split at h
    · simp only [Bool.and_eq_true, decide_eq_true_eq] at h
      obtain ⟨g1, g2⟩ := glb_of K h.1
      obtain ⟨m1, B, ni, ii, bm, F, q, kp, s1, s2⟩ := K.cl k _ h.2
      exact ps_raise K.calm tk (pmk_own F q m1 kp (raises_own s1 s2) g1 g2)
    · cases h
  | .par i j es, x, h => by
    unfold chkB at h
    split at h
    · rename_i y py z pz k1 p1 a b k2 p2 p3
      simp only [Bool.and_eq_true] at h
      obtain ⟨h1, h2⟩ := h
      unfold parOk at h1
      simp only [Bool.and_eq_true, decide_eq_true_eq, Bool.not_eq_true'] at h1
      obtain ⟨⟨⟨⟨⟨⟨⟨⟨⟨⟨⟨a1, a2⟩, a3⟩, a4⟩, a5⟩, a6⟩, a7⟩, a8⟩, a9⟩, a10⟩, a11⟩, a12⟩ := h1
      have l1 : X.env.scope.names.lookup y = some .local := by rw [K.sc]; exact a4
      have l2 : X.env.scope.names.lookup z = some .local := by rw [K.sc]; exact a5
      exact ps_par K.calm K.nd (by rw [K.N]; exact a1) (by rw [K.N]; exact a2) a3 l1 l2 (pa_Es K tk es _ h2 (by rw [List.all_cons, List.all_cons, a9, a10]; rfl))
        (names_par l1 l2 (by unfold Env.blockKind; rw [K.sc]; exact a6) a7 a8 a9 a10 a11 a12) (hs := sole_comp rfl)
    · cases h
  | .wall, x, h => ps_never
theorem pss_Bs {X : Cx} {g : G} {de : De} {c : Cn} {W : WX} (K : Ctx X g de c) (tk : Takes X W) (po : PassesOwn (model X.prog X.w) X.A X.env X.xe) : ∀ (b : Bs) (xs : List Stmt), chkBs c b xs = true → PSs X xs (trBs g de W b)
  | .nil, xs, h => by
    cases xs with
    | nil => exact pss_nil
    | cons _ _ => cases h
  | .cons b r, xs, h => by
    cases xs with
    | nil => cases h
    | cons x rest =>
      have h' : (chkB c b x && chkBs c r rest) = true := h
      obtain ⟨h1, h2⟩ := Bool.and_eq_true_iff.mp h'
      exact pss_cons (ps_B K tk po b x h1) (pss_Bs K tk po r rest h2)
end
end Mi

set_option linter.all false
set_option maxRecDepth 100000
set_option maxHeartbeats 8000000
/-! Mi: all defs of a text, by levels. -/
namespace Mi
open PySem PySem.Spec PyProof.Rows L2
structure Def where
  name : Str
  np : Nat
  N : List Str
  body : Bs
noncomputable def FK (cs : Nat → D) (dfs : List Def) : Nat → Nat → Fn
  | 0, _ => fun _ _ => none
  | k + 1, i => match dfs[i]? with
    | some d => fnR d.N.length (dnBs ⟨cs, FK cs dfs k⟩ d.body)
    | none => fun _ _ => none
theorem FK_sl (cs : Nat → D) (dfs : List Def) : ∀ k i, FnSl (FK cs dfs k i)
  | 0, i => fun ds hs r e => by cases e
  | k + 1, i => by
    show FnSl (match dfs[i]? with
    | some d => fnR d.N.length (dnBs ⟨cs, FK cs dfs k⟩ d.body)
    | none => fun _ _ => none)
    cases dfs[i]? with
    | none => exact fun ds hs r e => by cases e
    | some d => exact fnSl _ _
/-- the fixed names -/
structure Nm where
  gs : List Str
  fs : List (Str × Nat)
  bs : List Str
  cl : List Str
def Nm.cn (m : Nm) (N : List Str) (sc : Scope) : Cn := ⟨N, sc, m.gs, m.fs, m.bs, m.cl, (sc.names.filter fun p => decide (p.2 = .cell)).map (·.1)⟩
def scopeOk (N : List Str) (np : Nat) (sc : Scope) : Bool :=
  decide (sc.kind = .function) && !sc.isCoroutine && !sc.isGenerator && decide N.Nodup && decide (np ≤ N.length) && (N.take np).all (fun x => decide (sc.names.lookup x = some .local) || decide (sc.names.lookup x = some .cell)) && sc.names.all fun y => decide (y.2 ≠ .free)
theorem scope_of {N : List Str} {np : Nat} {sc : Scope} (h : scopeOk N np sc = true) : FnScope N (N.take np) sc ∧ np ≤ N.length := by
  unfold scopeOk at h
  simp only [Bool.and_eq_true, Bool.not_eq_true', decide_eq_true_eq] at h
  obtain ⟨⟨⟨⟨⟨⟨h1, h2⟩, h3⟩, h4⟩, h5⟩, h6⟩, h7⟩ := h
  refine ⟨⟨h1, h2, h3, h4, by rw [List.length_take, Nat.min_eq_left h5], fun x hx => ?_, fun y hy => of_decide_eq_true (List.all_eq_true.mp h7 y hy)⟩, h5⟩
  have z := List.all_eq_true.mp h6 x hx
  simpa using z
/-- a def and its row's datum -/
def chkD (m : Nm) (d : Def) (e : He.DefD) : Bool := decide (d.name = e.name) && e.dfl.isEmpty && e.kwd.isEmpty && scopeOk d.N d.np e.scope && chkBs (m.cn d.N e.scope) d.body e.body
def BindOk (d : Def) (e : He.DefD) : Prop := ∀ (kV doc pm : Value) (an : Option Addr) (cdv ct : Value) (us : List Value), us.length = d.np → bindArgs (PySem.W.fnOf e.name e.qual e.params e.body e.scope .none kV doc pm an cdv ct) ⟨us, []⟩ = pure ((d.N.take d.np).zip us)
/-- what the head tells -/
structure Told (K : PySem.W.Frag) (mg : Str → Option Value) (g : G) (cs : Nat → D) (m : Nm) (dfs : List Def) (es : List He.DefD) : Prop where
  gK : g.K = K
  len : dfs.length = es.length
  fs : m.fs = dfs.map fun d => (d.name, d.np)
  chk : ∀ (i : Nat) (d : Def) (e : He.DefD), dfs[i]? = some d → es[i]? = some e → chkD m d e = true ∧ BindOk d e
  says : ∀ (i : Nat) (e : He.DefD), es[i]? = some e → (∃ fd, FunD K e.name e.qual e.params e.body e.scope (e.dvs K) (e.kws K) (He.fAd K e.at_) fd) ∧ mg e.name = some (.ref (He.fAd K e.at_))
  bs : ∀ x, x ∈ m.bs → mg x = none
  gs : ∀ (k : Nat) (x : Str), m.gs[k]? = some x → ∃ u v, mg x = some u ∧ RelV v u ∧ ∀ F io, FV g F io (cs k) v
  cl : ∀ (k : Nat) (x : Str), m.cl[k]? = some x → mg x = some (.ref (g.C k)) ∧ ExcC K (g.C k)
section
variable {P : Program} {w : World} {K : PySem.W.Frag} {mg : Str → Option Value} {base : Heap} {g : G} {cs : Nat → D} {m : Nm} {dfs : List Def} {es : List He.DefD}
theorem told_fn (T : Told K mg g cs m dfs es) : ∀ (k i : Nat) (d : Def) (e : He.DefD) (fd : FuncData), dfs[i]? = some d → es[i]? = some e → FunD K e.name e.qual e.params e.body e.scope (e.dvs K) (e.kws K) (He.fAd K e.at_) fd →
    FnOk P w K mg base (L2.CX P w) k (He.fAd K e.at_) fd (d.N.take d.np) (spF g (FK cs dfs k i) d.np) ∧ mg d.name = some (.ref (He.fAd K e.at_)) ∧ PySem.W.keepIn K (.ref (He.fAd K e.at_)) = true ∧ Binds K fd (d.N.take d.np) [] := by
  intro k
  induction k with
  | zero =>
    intro i d e fd hd he F
    obtain ⟨_, hm⟩ := T.says i e he
    obtain ⟨hc, hb⟩ := T.chk i d e hd he
    unfold chkD at hc
    simp only [Bool.and_eq_true, decide_eq_true_eq] at hc
    obtain ⟨⟨⟨⟨h1, h2⟩, h3⟩, h4⟩, h5⟩ := hc
    obtain ⟨S, hl⟩ := scope_of h4
    have hdv : e.dvs K = [] := by
      unfold He.DefD.dvs
      rw [List.isEmpty_iff.mp h2]
      rfl
    rw [hdv] at F
    have hlen : (d.N.take d.np).length = d.np := by rw [List.length_take, Nat.min_eq_left hl]
    refine ⟨⟨fun vs H Q E h => by rw [hlen]; exact h.1, fun A outer s H args us vs Q E _ _ _ _ h => ?_⟩, by rw [h1]; exact hm, F.kp, F.bindsN fun kV doc pm an cdv ct us hu => hb kV doc pm an cdv ct us (hu.trans hlen)⟩
    obtain ⟨_, n, w', hs, ds, _, _, z⟩ := h
    exact z.elim
  | succ k ih =>
    intro i d e fd hd he F
    obtain ⟨_, hm⟩ := T.says i e he
    obtain ⟨hc, hb⟩ := T.chk i d e hd he
    unfold chkD at hc
    simp only [Bool.and_eq_true, decide_eq_true_eq] at hc
    obtain ⟨⟨⟨⟨h1, h2⟩, h3⟩, h4⟩, h5⟩ := hc
    obtain ⟨S, hl⟩ := scope_of h4
    have hdv : e.dvs K = [] := by
      unfold He.DefD.dvs
      rw [List.isEmpty_iff.mp h2]
      rfl
    rw [hdv] at F
    have hlen : (d.N.take d.np).length = d.np := by rw [List.length_take, Nat.min_eq_left hl]
    have bn := F.bindsN (ps := d.N.take d.np) fun kV doc pm an cdv ct us hu => hb kV doc pm an cdv ct us (hu.trans hlen)
    refine ⟨F.ok S (fun vs H Q E h => by rw [hlen]; exact h.1) (fun cdv A outer s H vs Q E hr h => ?_), by rw [h1]; exact hm, F.kp, bn⟩
    obtain ⟨hN, n, w', hs, ds, I, fv, z⟩ := h
    have hF : FK cs dfs (k + 1) i = fnR d.N.length (dnBs ⟨cs, FK cs dfs k⟩ d.body) := by
      show (match dfs[i]? with
        | some d => fnR d.N.length (dnBs ⟨cs, FK cs dfs k⟩ d.body)
        | none => fun _ _ => none) = _
      rw [hd]
    rw [hF] at z
    -- the body's context
    have C : Ctx (cxOf (L2.CX P w) P w K mg base d.N e.qual e.scope (He.fAd K e.at_) cdv A outer s H E) g ⟨cs, FK cs dfs k⟩ (m.cn d.N e.scope) := by
      refine ⟨T.gK, rfl, S.nd, rfl, rfl, hr.units, fun x hx => rfl, T.bs, T.gs, fun j x np hj => ?_, T.cl⟩
      have hj' : m.fs[j]? = some (x, np) := hj
      rw [T.fs, List.getElem?_map] at hj'
      obtain ⟨d', e1, e2⟩ := Option.map_eq_some_iff.mp hj'
      cases e2
      have hjl : j < es.length := by
        rw [← T.len]
        exact (List.getElem?_eq_some_iff.mp e1).1
      obtain ⟨⟨fd', F0⟩, _⟩ := T.says j es[j] (List.getElem?_eq_getElem hjl)
      obtain ⟨F', m', k', b'⟩ := ih j d' es[j] fd' e1 (List.getElem?_eq_getElem hjl) F0
      exact ⟨⟨k, _, fd', _, F', hr, m', k', b'⟩⟩
    have tk : L2.Takes (cxOf (L2.CX P w) P w K mg base d.N e.qual e.scope (He.fAd K e.at_) cdv A outer s H E) (fun cls d _ H => E cls d H) := L2.takes_of rfl rfl rfl rfl
    have po := L2.passes_of (X := cxOf (L2.CX P w) P w K mg base d.N e.qual e.scope (He.fAd K e.at_) cdv A outer s H E) rfl
    refine ⟨trBs g ⟨cs, FK cs dfs k⟩ (fun cls d _ H => E cls d H) d.body, pss_Bs C tk po d.body e.body h5, ?_⟩
    exact fn_body I fv z (rs_Bs (FK_sl cs dfs k) _ d.body)
/-- the law's promise, at the heap behind the top -/
theorem law_sp {f : Fn} {H : Hp} {a : Addr} {ns : List Int} (hK : g.K = K) (hS : SqL K H a (ns.map V.int)) (h : ∃ s, f [.lst (ns.map D.int)] [] = some (.ok (.bl true) s)) :
    spF g f 1 [.ref a] H (fun v _ => v = .bl true) fun _ _ _ => False := by
  obtain ⟨s, e⟩ := h
  refine ⟨rfl, ⟨H, fun _ => False, H, []⟩, ⟨H, [], fun _ => 0, fun _ _ => 0⟩, [], [.lst (ns.map D.int)], ?_, ?_, ?_⟩
  · have nl : ∀ q, ¬ Live [] [] q := fun q hq => by
      cases q with
      | slot i =>
        obtain ⟨l, e, _⟩ := hq
        simp at e
      | cell k =>
        obtain ⟨l, e, _⟩ := hq
        simp at e
      | fld k j =>
        obtain ⟨c, ns, ls, l, e, _⟩ := hq
        simp at e
    exact ⟨fun a o e => e, fun i l e => by simp at e, fun k o e => by simp at e, rfl, fun p q hp => (nl p hp).elim, fun q hq => (nl q hq).elim, fun a o e _ => e, fun q hq => (nl q hq).elim, fun a o e => .inl ⟨o, e⟩, Le.refl _ _, Nat.le_refl _⟩
  · have fi : ∀ l : List Int, FVs g H [] (l.map D.int) (l.map V.int) := fun l => by
      induction l with
      | nil => exact .nil
      | cons i l ih => exact .cons rfl ih
    refine .cons ⟨a, ns.map V.int, rfl, ?_, fi ns⟩ .nil
    rw [hK]
    exact hS
  · rw [e]
    exact fun v w' H' I l fv => fv
end

/-! ### the head: facts by a Hook with a test of one's own -/
abbrev AlE : Type := He.AlD × Bool
def obsE (fa : List He.Fa) (fn : List He.DefD) (ex : PySem.W.Frag → Bool) (K : PySem.W.Frag) : AlE := (He.obsD fa fn K, ex K)
def valE (fn : List He.DefD) : AlE := (He.valD fn, true)
def SaysE (fa : List He.Fa) (fn : List He.DefD) (ex : PySem.W.Frag → Bool) (K : PySem.W.Frag) : Prop := obsE fa fn ex K = valE fn
def obsEG (n : Nat) (fa : List He.Fa) (fn : List He.DefD) (ex : PySem.W.Frag → Bool) (g : Addr → Option Obj) : AlE := obsE fa fn ex (He.frG g (He.asD g n))
def hookE (n : Nat) (fa : List He.Fa) (fn : List He.DefD) (ex : PySem.W.Frag → Bool) : PySem.W.Hook where
  α := AlE
  obs := fun s => obsEG n fa fn ex s.heap.get?
  val := fun _ => valE fn
  says := fun _ h => ∃ K : PySem.W.Frag, K.In h ∧ SaysE fa fn ex K
  of := fun _ _ e => ⟨_, He.frG_in, e⟩
  keeps := fun _ _ _ ⟨K, hK, c⟩ k => ⟨K, PySem.W.Frag.In.keeps hK k, c⟩
theorem obsEG_eq {n : Nat} {fa : List He.Fa} {fn : List He.DefD} {ex : PySem.W.Frag → Bool} {g : Addr → Option Obj} {s : Shared} (h : ∀ a, g a = s.heap.get? a) : obsEG n fa fn ex g = (hookE n fa fn ex).obs s := by
  have e : g = s.heap.get? := funext h
  rw [e] <;> rfl
theorem SaysE.d {fa : List He.Fa} {fn : List He.DefD} {ex : PySem.W.Frag → Bool} {K : PySem.W.Frag} (c : SaysE fa fn ex K) : He.SaysD fa fn K := congrArg (fun z : AlE => z.1) c
theorem SaysE.e {fa : List He.Fa} {fn : List He.DefD} {ex : PySem.W.Frag → Bool} {K : PySem.W.Frag} (c : SaysE fa fn ex K) : ex K = true := congrArg (fun z : AlE => z.2) c
theorem says_fact {fa : List He.Fa} {fn : List He.DefD} {K : PySem.W.Frag} (c : He.SaysD fa fn K) {f : He.Fa} (h : f ∈ fa) : f.ok K = true := by
  obtain ⟨i, hi, e⟩ := List.mem_iff_getElem.mp h
  exact c.fact i (f := f) (by rw [List.getElem?_eq_getElem hi, e])
/-- constants of the top: texts, tuples of texts and numbers -/
def csOk (x : Str) : D → He.Fa × (PySem.W.Frag → Bool)
  | .str z => (.str x z, fun _ => true)
  | .int i => (.int x i, fun _ => true)
  | _ => (.glo x, fun _ => true)
end Mi

set_option linter.all false
set_option maxRecDepth 100000
set_option maxHeartbeats 8000000
/-! Mi: from the head's facts to the law. -/
namespace Mi
open PySem PySem.Spec PyProof.Rows L2
/-- a constant of the top -/
inductive Co where
  | str (z : Str) | int (i : Int) | tup (ds : List He.Dv) | any
def dvD : He.Dv → D
  | .bl b => .bl b
  | .int i => .int i
  | .str x => .str x
  | _ => .non
def dvOk : He.Dv → Bool
  | .bl _ => true
  | .int _ => true
  | .str _ => true
  | .non => true
  | _ => false
def Co.d : Co → D
  | .str z => .str z
  | .int i => .int i
  | .tup ds => .tup (ds.map dvD)
  | .any => .non
def csOf (l : List (Str × Co)) (k : Nat) : D := match l[k]? with
  | some p => p.2.d
  | none => .non
def coFa (p : Str × Co) : List He.Fa := match p.2 with
  | .str z => [.str p.1 z]
  | .int i => [.int p.1 i]
  | .tup _ => [.glo p.1]
  | .any => []
def coEx (K : PySem.W.Frag) (p : Str × Co) : Bool := match p.2 with
  | .tup ds => He.tupB K p.1 ds && ds.all dvOk
  | .any => false
  | _ => true
theorem dv_fv {g : G} {F : Hp} {io : List Addr} (K : PySem.W.Frag) : ∀ {ds : List He.Dv}, ds.all dvOk = true → FVs g F io (ds.map dvD) (ds.map (He.Dv.v K))
  | [], _ => .nil
  | d :: ds, h => by
    rw [List.all_cons, Bool.and_eq_true] at h
    refine .cons ?_ (dv_fv K h.2)
    cases d <;> first | rfl | (cases h.1)
def nmOf (cs : List (Str × Co)) (dfs : List Def) (bs cl : List Str) : Nm := ⟨cs.map (·.1), dfs.map (fun d => (d.name, d.np)), bs, cl⟩
def faOf (cs : List (Str × Co)) (es : List He.DefD) (bs cl : List Str) : List He.Fa := es.map (fun e => .glo e.name) ++ bs.map .free ++ cs.flatMap coFa ++ cl.map .glo ++ cl.map .exc
def exOf (cs : List (Str × Co)) (K : PySem.W.Frag) : Bool := cs.all (coEx K)
def atOk (es : List He.DefD) : Bool := es.all fun e => decide (e.at_ = (e.name, none))
inductive AllD (m : Nm) : List Def → List He.DefD → Prop where
  | nil : AllD m [] []
  | cons {d : Def} {e : He.DefD} {ds : List Def} {es : List He.DefD} (h : chkD m d e = true) (b : BindOk d e) (r : AllD m ds es) : AllD m (d :: ds) (e :: es)
theorem AllD.len {m : Nm} {ds : List Def} {es : List He.DefD} (h : AllD m ds es) : ds.length = es.length := by
  induction h with
  | nil => rfl
  | cons _ _ _ ih => rw [List.length_cons, List.length_cons, ih]
theorem AllD.get {m : Nm} {ds : List Def} {es : List He.DefD} (h : AllD m ds es) : ∀ (i : Nat) (d : Def) (e : He.DefD), ds[i]? = some d → es[i]? = some e → chkD m d e = true ∧ BindOk d e := by
  induction h with
  | nil =>
    intro i d e h1
    simp at h1
  | cons h b r ih =>
    intro i d e h1 h2
    cases i with
    | zero =>
      rw [List.getElem?_cons_zero] at h1 h2
      cases h1
      cases h2
      exact ⟨h, b⟩
    | succ i => exact ih i d e (by simpa using h1) (by simpa using h2)
section
variable {K : PySem.W.Frag} {h : Heap} {mg : Str → Option Value} {cs : List (Str × Co)} {dfs : List Def} {es : List He.DefD} {bs cl : List Str}
def gOf (K : PySem.W.Frag) (cl : List Str) : G := ⟨K, fun k => He.ga K (cl.getD k Str.empty)⟩
theorem told_of (X : K.In h) (G : h.Ns mainGlobals mg) (c : SaysE (faOf cs es bs cl) es (exOf cs) K) (ha : atOk es = true) (hd : AllD (nmOf cs dfs bs cl) dfs es) : Told K mg (gOf K cl) (csOf cs) (nmOf cs dfs bs cl) dfs es := by
  have fact : ∀ f, f ∈ faOf cs es bs cl → f.ok K = true := fun f hf => says_fact c.d hf
  have m1 : ∀ e ∈ es, He.Fa.glo e.name ∈ faOf cs es bs cl := fun e he => by
    unfold faOf
    simp only [List.mem_append]
    exact .inl (.inl (.inl (.inl (List.mem_map.mpr ⟨e, he, rfl⟩))))
  have m2 : ∀ x ∈ bs, He.Fa.free x ∈ faOf cs es bs cl := fun x hx => by
    unfold faOf
    simp only [List.mem_append]
    exact .inl (.inl (.inl (.inr (List.mem_map.mpr ⟨x, hx, rfl⟩))))
  have m3 : ∀ p ∈ cs, ∀ f ∈ coFa p, f ∈ faOf cs es bs cl := fun p hp f hf => by
    unfold faOf
    simp only [List.mem_append]
    exact .inl (.inl (.inr (List.mem_flatMap.mpr ⟨p, hp, hf⟩)))
  have m4 : ∀ x ∈ cl, He.Fa.glo x ∈ faOf cs es bs cl := fun x hx => by
    unfold faOf
    simp only [List.mem_append]
    exact .inl (.inr (List.mem_map.mpr ⟨x, hx, rfl⟩))
  have m5 : ∀ x ∈ cl, He.Fa.exc x ∈ faOf cs es bs cl := fun x hx => by
    unfold faOf
    simp only [List.mem_append]
    exact .inr (List.mem_map.mpr ⟨x, hx, rfl⟩)
  refine ⟨rfl, hd.len, rfl, hd.get, fun i e he => ?_, fun x hx => He.free_ok X G (fact _ (m2 x hx)), fun k x hk => ?_, fun k x hk => ?_⟩
  · have hm := List.mem_of_getElem? he
    obtain ⟨fd, F⟩ := c.d.def_ i (d := e) he
    have e1 : e.at_ = (e.name, none) := of_decide_eq_true (List.all_eq_true.mp ha e hm)
    refine ⟨⟨fd, F⟩, ?_⟩
    rw [e1]
    exact He.glo_ok X G (fact _ (m1 e hm))
  · have hk' : (cs.map (·.1))[k]? = some x := hk
    rw [List.getElem?_map] at hk'
    obtain ⟨⟨x', co⟩, e1, e2⟩ := Option.map_eq_some_iff.mp hk'
    have e2' : x' = x := e2
    subst e2'
    have hm := List.mem_of_getElem? e1
    have ec : csOf cs k = co.d := by
      unfold csOf
      rw [e1]
    rw [ec]
    have hx : coEx K (x', co) = true := List.all_eq_true.mp c.e _ hm
    cases co with
    | str z =>
      obtain ⟨t, e⟩ := He.str_ok X G (fact (.str x' z) (m3 _ hm _ (List.mem_singleton.mpr rfl)))
      exact ⟨_, .str z, e, ⟨t, rfl⟩, fun _ _ => rfl⟩
    | int i =>
      obtain ⟨t, e⟩ := He.int_ok X G (fact (.int x' i) (m3 _ hm _ (List.mem_singleton.mpr rfl)))
      exact ⟨_, .int i, e, ⟨t, rfl⟩, fun _ _ => rfl⟩
    | tup ds =>
      have e := He.glo_ok X G (fact (.glo x') (m3 _ hm _ (List.mem_singleton.mpr rfl)))
      have hx' : (He.tupB K x' ds && ds.all dvOk) = true := hx
      obtain ⟨h1, h2⟩ := Bool.and_eq_true_iff.mp hx'
      exact ⟨_, .ref (He.ga K x'), e, rfl, fun F io => ⟨_, _, rfl, He.tupB_ok h1 F, dv_fv K h2⟩⟩
    | any => cases hx
  · have hm := List.mem_of_getElem? hk
    have hg : cl.getD k Str.empty = x := by
      have hk' : cl[k]? = some x := hk
      rw [List.getD_eq_getElem?_getD, hk']
      rfl
    have h1 := He.glo_ok X G (fact _ (m4 x hm))
    obtain ⟨a, b, c', d⟩ := He.exc_ok (fact _ (m5 x hm))
    show mg x = some (.ref (He.ga K (cl.getD k Str.empty))) ∧ ExcC K (He.ga K (cl.getD k Str.empty))
    rw [hg]
    exact ⟨h1, "ValueError", "ValueError.__new__", "ValueError.__init__", _, PySem.F.excBase_ValueError, a, b, c', d⟩
end
/-- an exception behind a call, whatever the world -/
def CXA (P : Program) : CXT := fun outer H s E u s' => ∃ w, L2.CX P w outer H s E u s'
theorem fn_any {P : Program} {w : World} {K : PySem.W.Frag} {mg : Str → Option Value} {base : Heap} {k : Nat} {f : Addr} {fd : FuncData} {ps : List Str} {sp : Sp} (F : FnOk P w K mg base (L2.CX P w) k f fd ps sp) : FnOk P w K mg base (CXA P) k f fd ps sp :=
  ⟨F.len, fun A outer s H args us vs Q E hr he hb hv hs => codeAny_mono (F.run A outer s H args us vs Q E hr he hb hv hs) fun r s' hq => by
    cases r with
    | error e => exact ⟨w, hq⟩
    | ok fl => cases fl <;> exact hq⟩
theorem cxa_no {P : Program} (H : Hp) (s : Shared) (e : Value) (s' : Shared) (h : CXA P [] H s (fun _ _ _ => False) e s') : False := by
  obtain ⟨w, a, B, H', cls, d, _, _, _, _, _, _, _, z⟩ := h
  exact z
/-- what the walk wants of the law's def: k levels, the def's number i -/
theorem law_told {P : Program} {w : World} {K : PySem.W.Frag} {h : Heap} {mg : Str → Option Value} {cs : List (Str × Co)} {dfs : List Def} {es : List He.DefD} {bs cl : List Str} {fa : Addr} {k i : Nat} {x : Str} {d : Def} {e : He.DefD}
    (X : K.In h) (G : h.Ns mainGlobals mg) (c : SaysE (faOf cs es bs cl) es (exOf cs) K) (ha : atOk es = true) (hd : AllD (nmOf cs dfs bs cl) dfs es) (h1 : dfs[i]? = some d) (h2 : es[i]? = some e) (hfa : mg d.name = some (.ref fa)) (hp : d.np = 1) (hx : d.N.take 1 = [x])
    (hl : ∀ ns : List Int, ns.length ≤ 63 → ∃ s, FK (csOf cs) dfs k i [.lst (ns.map D.int)] [] = some (.ok (.bl true) s)) :
    ∃ (K : PySem.W.Frag) (fd : FuncData) (sp : Sp), K.In h ∧ (∀ (s : Shared) (u : Value), BindsTo s fd ⟨[u], []⟩ [(x, u)]) ∧
        (∀ (H : Hp) (a : Addr) (ns : List Int), ns.length ≤ 63 → Only H → SqL K H a (ns.map V.int) → sp [.ref a] H (fun v _ => v = .bl true) fun _ _ _ => False) ∧
        ∀ base : Heap, K.In base → base.Ns mainGlobals mg → FnOk P w K mg base (CXA P) k fa fd [x] sp := by
  have T := told_of X G c ha hd
  obtain ⟨⟨fd, F0⟩, hm⟩ := T.says i e h2
  have F := F0
  obtain ⟨hc, hb⟩ := T.chk i d e h1 h2
  have hc' := hc
  unfold chkD at hc
  simp only [Bool.and_eq_true, decide_eq_true_eq] at hc
  obtain ⟨⟨⟨⟨n1, n2⟩, n3⟩, n4⟩, n5⟩ := hc
  have hdv : e.dvs K = [] := by
    unfold He.DefD.dvs
    rw [List.isEmpty_iff.mp n2]
    rfl
  rw [hdv] at F
  rw [n1] at hfa
  have efa : fa = He.fAd K e.at_ := by
    rw [hm] at hfa
    cases hfa
    rfl
  have bA : ∀ (s : Shared) (us : List Value), us.length = [x].length → BindsTo s fd ⟨us, []⟩ ([x].zip us) := FunD.bindsA (ps := [x]) F fun kV doc pm an cdv ct us hu => by
    have z := hb kV doc pm an cdv ct us (by rw [hp]; exact hu)
    rw [hp, hx] at z
    exact z
  refine ⟨K, fd, spF (gOf K cl) (FK (csOf cs) dfs k i) 1, X, fun s u => bA s [u] rfl, fun H a ns hn _ hS => law_sp rfl hS (hl ns hn), fun base KB GB => ?_⟩
  obtain ⟨F', _, _, _⟩ := told_fn (P := P) (w := w) (base := base) T k i d e fd h1 h2 F0
  rw [hp, hx] at F'
  rw [efa]
  exact fn_any F'
end Mi

set_option linter.all false
set_option maxRecDepth 100000
set_option maxHeartbeats 4000000
/-! Mi: rows by which a run is reckoned. -/
namespace Mi
open PySem PySem.Spec PyProof.Rows L2
@[simp] theorem dnE_q0 (de : De) (i : Nat) : dnE de (.v i : E) = eVar i := id rfl
@[simp] theorem dnE_q1 (de : De) (i : Nat) : dnE de (.fv i : E) = eFzV i := id rfl
@[simp] theorem dnE_q2 (de : De) (i : Int) : dnE de (.int i : E) = ret (.int i) := id rfl
@[simp] theorem dnE_q3 (de : De) (x : Str) : dnE de (.str x : E) = ret (.str x) := id rfl
@[simp] theorem dnE_q4 (de : De) (b : Bool) : dnE de (.bl b : E) = ret (.bl b) := id rfl
@[simp] theorem dnE_q5 (de : De)  : dnE de (.non : E) = ret .non := id rfl
@[simp] theorem dnE_q6 (de : De) (k : Nat) : dnE de (.gl k : E) = ret (de.cs k) := id rfl
@[simp] theorem dnE_q7 (de : De) (o : Operator) (a : E) (b : E) : dnE de (.op o a b : E) = eOp (dnOp o) (dnE de a) (dnE de b) := id rfl
@[simp] theorem dnE_q8 (de : De) (a : E) : dnE de (.neg a : E) = eUn fNeg (dnE de a) := id rfl
@[simp] theorem dnE_q9 (de : De) (a : E) : dnE de (.not a : E) = eNot (dnE de a) := id rfl
@[simp] theorem dnE_q10 (de : De) (es : Es) : dnE de (.and es : E) = dnAnd de es := id rfl
@[simp] theorem dnE_q11 (de : De) (es : Es) : dnE de (.or es : E) = dnOr de es := id rfl
@[simp] theorem dnE_q12 (de : De) (o : CmpOp) (a : E) (b : E) : dnE de (.cmp o a b : E) = eOp (dnCmp o) (dnE de a) (dnE de b) := id rfl
@[simp] theorem dnE_q13 (de : De) (o : CmpOp) (p : CmpOp) (a : E) (b : E) (c : E) : dnE de (.chain o p a b c : E) = eChain (dnCmp o) (dnCmp p) (dnE de a) (dnE de b) (dnE de c) := id rfl
@[simp] theorem dnE_q14 (de : De) (c : T) (a : E) (b : E) : dnE de (.ife c a b : E) = eIf (dnT de c) (dnE de a) (dnE de b) := id rfl
@[simp] theorem dnE_q15 (de : De) (es : Es) : dnE de (.tup es : E) = eTup (dnEs de es) := id rfl
@[simp] theorem dnE_q16 (de : De) (es : Es) : dnE de (.lst es : E) = eFrz (lLst (dnEs de es)) := id rfl
@[simp] theorem dnE_q17 (de : De) (es : Es) : dnE de (.newl es : E) = eNewL (lLst (dnEs de es)) := id rfl
@[simp] theorem dnE_q18 (de : De) (a : E) (b : E) : dnE de (.idx a b : E) = eOp fIdx (dnE de a) (dnE de b) := id rfl
@[simp] theorem dnE_q19 (de : De) (a : E) (lo : Oe) (hi : Oe) : dnE de (.sl a lo hi : E) = eSl (dnE de a) (dnO de lo) (dnO de hi) := id rfl
@[simp] theorem dnE_q20 (de : De) (k : Nat) (n : Nat) (es : Es) : dnE de (.call k n es : E) = eCall (de.F k) n (dnEs de es) := id rfl
@[simp] theorem dnE_q21 (de : De) (b : Bi) (es : Es) : dnE de (.bi b es : E) = bnd (dnEs de es) (dnBi b) := id rfl
@[simp] theorem dnE_isi (de : De) (T : String) (a : E) : dnE de (.isi T a) = eIsi T (dnE de a) := id rfl
@[simp] theorem dnE_q23 (de : De) (m : Sm) (a : E) (b : E) : dnE de (.m1 m a b : E) = eM1 (dnSm m) (dnE de a) (dnE de b) := id rfl
@[simp] theorem dnE_q24 (de : De) (es : Js) : dnE de (.js es : E) = eJs (dnJs de es) := id rfl
@[simp] theorem dnE_q25 (de : De) (i : It) (t : Tg) (c : Ot) (e : E) (vs : List (Str × Nat)) : dnE de (.lc i t c e vs : E) = eFrz (if tgIn (vs.map (·.2)) t then lcM (dnI de i) (dnG t) (dnC de c) (dnE de e) (vs.map (·.2)) else stuck) := id rfl
@[simp] theorem dnE_q26 (de : De) (i : It) (t : Tg) (c : Ot) (e : E) (vs : List (Str × Nat)) : dnE de (.lcN i t c e vs : E) = eNewL (if tgIn (vs.map (·.2)) t then lcM (dnI de i) (dnG t) (dnC de c) (dnE de e) (vs.map (·.2)) else stuck) := id rfl
@[simp] theorem dnE_q27 (de : De)  : dnE de (.dnew : E) = eNewD [] (ret []) := id rfl
@[simp] theorem dnE_q28 (de : De) (ps : Ps) : dnE de (.disp ps : E) = eDisp (dnPs de ps) := id rfl
@[simp] theorem dnE_q29 (de : De) (m : Lm) (a : E) (es : Es) : dnE de (.bm m a es : E) = eBM "list" (dnLm m) (dnE de a) (dnEs de es) := id rfl
@[simp] theorem dnE_q30 (de : De) (a : E) : dnE de (.fz a : E) = eFz (dnE de a) := id rfl
@[simp] theorem dnE_q31 (de : De) (a : E) : dnE de (.fm a : E) = eFmt (dnE de a) := id rfl
@[simp] theorem dnE_q32 (de : De)  : dnE de (.wall : E) = stuck := id rfl
@[simp] theorem dnEs_q0 (de : De)  : dnEs de (.nil : Es) = aNil := id rfl
@[simp] theorem dnEs_q1 (de : De) (e : E) (r : Es) : dnEs de (.cons e r : Es) = aCons (dnE de e) (dnEs de r) := id rfl
@[simp] theorem dnAnd_q0 (de : De)  : dnAnd de (.nil : Es) = stuck := id rfl
@[simp] theorem dnAnd_q1 (de : De) (e : E) (r : Es) : dnAnd de (.cons e r : Es) = if r.isNil then dnE de e else eAnd (dnE de e) (dnAnd de r) := id rfl
@[simp] theorem dnOr_q0 (de : De)  : dnOr de (.nil : Es) = stuck := id rfl
@[simp] theorem dnOr_q1 (de : De) (e : E) (r : Es) : dnOr de (.cons e r : Es) = if r.isNil then dnE de e else eOr (dnE de e) (dnOr de r) := id rfl
@[simp] theorem dnO_q0 (de : De)  : dnO de (.no : Oe) = oNone := id rfl
@[simp] theorem dnO_q1 (de : De) (e : E) : dnO de (.so e : Oe) = oSome (dnE de e) := id rfl
@[simp] theorem dnC_q0 (de : De)  : dnC de (.no : Ot) = ret true := id rfl
@[simp] theorem dnC_q1 (de : De) (e : T) : dnC de (.so e : Ot) = dnT de e := id rfl
@[simp] theorem dnJs_q0 (de : De)  : dnJs de (.nil : Js) = [] := id rfl
@[simp] theorem dnJs_q1 (de : De) (x : Str) (r : Js) : dnJs de (.txt x r : Js) = ret (.str x) :: dnJs de r := id rfl
@[simp] theorem dnJs_q2 (de : De) (e : E) (r : Js) : dnJs de (.fmt e r : Js) = eFmt (dnE de e) :: dnJs de r := id rfl
@[simp] theorem dnPs_q0 (de : De)  : dnPs de (.nil : Ps) = [] := id rfl
@[simp] theorem dnPs_q1 (de : De) (k : E) (v : E) (r : Ps) : dnPs de (.cons k v r : Ps) = (dnE de k, dnE de v) :: dnPs de r := id rfl
@[simp] theorem dnI_q0 (de : De) (e : E) : dnI de (.w e : It) = iW (dnE de e) := id rfl
@[simp] theorem dnI_q1 (de : De) (es : Es) : dnI de (.rng es : It) = if es.len = 1 ∨ es.len = 2 then iR (dnEs de es) else stuck := id rfl
@[simp] theorem dnI_q2 (de : De) (es : Es) : dnI de (.enum es : It) = iE (dnEs de es) := id rfl
@[simp] theorem dnT_q0 (de : De) (es : Ts) : dnT de (.and es : T) = dnTA de es := id rfl
@[simp] theorem dnT_q1 (de : De) (es : Ts) : dnT de (.or es : T) = dnTO de es := id rfl
@[simp] theorem dnT_q2 (de : De) (a : T) : dnT de (.not a : T) = tNot' (dnT de a) := id rfl
@[simp] theorem dnT_q3 (de : De) (o : CmpOp) (a : E) (b : E) : dnT de (.cmp o a b : T) = tVal (eOp (dnCmp o) (dnE de a) (dnE de b)) := id rfl
@[simp] theorem dnT_q4 (de : De) (o : CmpOp) (p : CmpOp) (a : E) (b : E) (c : E) : dnT de (.chain o p a b c : T) = tVal (eChain (dnCmp o) (dnCmp p) (dnE de a) (dnE de b) (dnE de c)) := id rfl
@[simp] theorem dnT_q5 (de : De) (a : E) : dnT de (.e a : T) = pTru (dnE de a) := id rfl
@[simp] theorem dnTA_q0 (de : De)  : dnTA de (.nil : Ts) = stuck := id rfl
@[simp] theorem dnTA_q1 (de : De) (e : T) (r : Ts) : dnTA de (.cons e r : Ts) = if r.isNil then dnT de e else tAnd' (dnT de e) (dnTA de r) := id rfl
@[simp] theorem dnTO_q0 (de : De)  : dnTO de (.nil : Ts) = stuck := id rfl
@[simp] theorem dnTO_q1 (de : De) (e : T) (r : Ts) : dnTO de (.cons e r : Ts) = if r.isNil then dnT de e else tOr' (dnT de e) (dnTO de r) := id rfl
@[simp] theorem dnB_q0 (de : De)  : dnB de (.nx : B) = sNext := id rfl
@[simp] theorem dnB_q1 (de : De) (t : Tg) (e : E) : dnB de (.asg t e : B) = sAsg (dnE de e) (dnG t) := id rfl
@[simp] theorem dnB_q2 (de : De) (o : E) (i : E) (e : E) : dnB de (.sub o i e : B) = sSub (dnE de o) (dnE de i) (dnE de e) := id rfl
@[simp] theorem dnB_q3 (de : De) (i : Nat) (o : Operator) (e : E) : dnB de (.aug i o e : B) = sAug i (fIp o) (dnE de e) := id rfl
@[simp] theorem dnB_q4 (de : De) (e : E) : dnB de (.ex e : B) = sDrop (dnE de e) := id rfl
@[simp] theorem dnB_q5 (de : De) (e : E) : dnB de (.rt e : B) = sRet (dnE de e) := id rfl
@[simp] theorem dnB_q6 (de : De)  : dnB de (.rtN : B) = sRetN := id rfl
@[simp] theorem dnB_q7 (de : De) (t : T) (a : Bs) (b : Bs) : dnB de (.iff t a b : B) = sIf (dnT de t) (dnBs de a) (dnBs de b) := id rfl
@[simp] theorem dnB_q8 (de : De) (t : T) (b : Bs) : dnB de (.wh t b : B) = whl (dnT de t) (dnBs de b) := id rfl
@[simp] theorem dnB_q9 (de : De) (t : Tg) (i : It) (b : Bs) : dnB de (.fr t i b : B) = sFor (dnI de i) (dnG t) (dnBs de b) := id rfl
@[simp] theorem dnB_q10 (de : De)  : dnB de (.brk : B) = sBrk := id rfl
@[simp] theorem dnB_q11 (de : De)  : dnB de (.cnt : B) = sCnt := id rfl
@[simp] theorem dnB_q12 (de : De) (k : Nat) : dnB de (.rs k : B) = sRaise k := id rfl
@[simp] theorem dnB_q13 (de : De) (i : Nat) (j : Nat) (es : Es) : dnB de (.par i j es : B) = sPar i j (dnEs de es) := id rfl
@[simp] theorem dnB_q14 (de : De)  : dnB de (.wall : B) = stuck := id rfl
@[simp] theorem dnBs_q0 (de : De)  : dnBs de (.nil : Bs) = sNext := id rfl
@[simp] theorem dnBs_q1 (de : De) (b : B) (r : Bs) : dnBs de (.cons b r : Bs) = sSeq (dnB de b) (dnBs de r) := id rfl
@[simp] theorem nil_isNil : Es.nil.isNil = true := id rfl
@[simp] theorem cons_isNil (e : E) (r : Es) : (Es.cons e r).isNil = false := id rfl
@[simp] theorem tnil_isNil : Ts.nil.isNil = true := id rfl
@[simp] theorem tcons_isNil (e : T) (r : Ts) : (Ts.cons e r).isNil = false := id rfl
@[simp] theorem es_len0 : Es.nil.len = 0 := id rfl
@[simp] theorem es_len1 (e : E) (r : Es) : (Es.cons e r).len = r.len + 1 := id rfl
@[simp] theorem tgs_len0 : Tgs.nil.len = 0 := id rfl
@[simp] theorem tgs_len1 (e : Tg) (r : Tgs) : (Tgs.cons e r).len = r.len + 1 := id rfl
@[simp] theorem dnG_s (i : Nat) : dnG (.s i) = gSlot i := id rfl
@[simp] theorem dnG_t (ts : Tgs) : dnG (.tup ts) = gTupM ts.len (dnGs ts) := id rfl
@[simp] theorem dnGs_0 : dnGs .nil = gNilM := id rfl
@[simp] theorem dnGs_1 (t : Tg) (r : Tgs) : dnGs (.cons t r) = gConsM (dnG t) (dnGs r) := id rfl
/-! ### sequencing -/
def bd {α β : Type} (r : Option (R α)) (f : α → M β) : Option (R β) := match r with
  | none => none
  | some (.exc c s') => some (.exc c s')
  | some (.ok a s') => f a s'
theorem bnd_ap {α β : Type} (m : M α) (f : α → M β) (s : S) : bnd m f s = bd (m s) f := rfl
@[simp] theorem bd_ok {α β : Type} (a : α) (s : S) (f : α → M β) : bd (some (.ok a s)) f = f a s := id rfl
@[simp] theorem bd_exc {α β : Type} (c : Nat) (s : S) (f : α → M β) : bd (some (.exc c s)) f = some (.exc c s) := id rfl
@[simp] theorem bd_none {α β : Type} (f : α → M β) : bd none f = none := id rfl
def sq (r : Option (R Fl)) (b : M Fl) : Option (R Fl) := match r with
  | some (.ok .nx s') => b s'
  | r => r
@[simp] theorem sSeq_ap (a b : M Fl) (s : S) : sSeq a b s = sq (a s) b := id rfl
@[simp] theorem sq_nx (s : S) (b : M Fl) : sq (some (.ok .nx s)) b = b s := id rfl
@[simp] theorem sq_rt (d : D) (s : S) (b : M Fl) : sq (some (.ok (.rt d) s)) b = some (.ok (.rt d) s) := id rfl
@[simp] theorem sq_bk (s : S) (b : M Fl) : sq (some (.ok .bk s)) b = some (.ok .bk s) := id rfl
@[simp] theorem sq_ct (s : S) (b : M Fl) : sq (some (.ok .ct s)) b = some (.ok .ct s) := id rfl
@[simp] theorem sq_exc (c : Nat) (s : S) (b : M Fl) : sq (some (.exc c s)) b = some (.exc c s) := id rfl
@[simp] theorem sq_none (b : M Fl) : sq none b = none := id rfl
@[simp] theorem loopK_nx (s : S) (k : M Fl) : loopK (some (.ok .nx s)) k = k s := id rfl
@[simp] theorem loopK_ct (s : S) (k : M Fl) : loopK (some (.ok .ct s)) k = k s := id rfl
@[simp] theorem loopK_bk (s : S) (k : M Fl) : loopK (some (.ok .bk s)) k = some (.ok .nx s) := id rfl
@[simp] theorem loopK_rt (d : D) (s : S) (k : M Fl) : loopK (some (.ok (.rt d) s)) k = some (.ok (.rt d) s) := id rfl
@[simp] theorem loopK_exc (c : Nat) (s : S) (k : M Fl) : loopK (some (.exc c s)) k = some (.exc c s) := id rfl
@[simp] theorem loopK_none (k : M Fl) : loopK none k = none := id rfl
@[simp] theorem forL_nil (f : D → M Unit) (b : M Fl) (s : S) : forL f b [] s = some (.ok .nx s) := id rfl
theorem forL_cons (f : D → M Unit) (b : M Fl) (d : D) (ds : List D) (s : S) : forL f b (d :: ds) s = bd (f d s) fun _ s => loopK (b s) (forL f b ds) := rfl
@[simp] theorem sFor_ap (m : M (List D)) (f : D → M Unit) (b : M Fl) (s : S) : sFor m f b s = bd (m s) fun ds => forL f b ds := id rfl
@[simp] theorem sIf_ap (t : M Bool) (a b : M Fl) (s : S) : sIf t a b s = bd (t s) fun x => if x then a else b := id rfl
@[simp] theorem sAsg_ap (m : M D) (f : D → M Unit) (s : S) : sAsg m f s = bd (m s) fun d => bnd (f d) fun _ => ret .nx := id rfl
@[simp] theorem sRet_ap (m : M D) (s : S) : sRet m s = bd (m s) fun d => ret (.rt d) := id rfl
@[simp] theorem sRetN_ap (s : S) : sRetN s = some (.ok (.rt .non) s) := id rfl
@[simp] theorem sDrop_ap (m : M D) (s : S) : sDrop m s = bd (m s) fun _ => ret .nx := id rfl
@[simp] theorem sNext_ap (s : S) : sNext s = some (.ok .nx s) := id rfl
@[simp] theorem sBrk_ap (s : S) : sBrk s = some (.ok .bk s) := id rfl
@[simp] theorem sCnt_ap (s : S) : sCnt s = some (.ok .ct s) := id rfl
@[simp] theorem sRaise_ap (c : Nat) (s : S) : sRaise c s = some (.exc c s) := id rfl
@[simp] theorem sAug_ap (i : Nat) (f : D → D → M D) (m : M D) (s : S) : sAug i f m s = bd (eVar i s) fun x => bnd m fun y => bnd (f x y) fun z => bnd (gSlot i z) fun _ => ret .nx := id rfl
@[simp] theorem sSub_ap (mo mi me : M D) (s : S) : sSub mo mi me s = bd (me s) fun v => bnd mo fun o => bnd mi fun i => setM o i v := id rfl
@[simp] theorem sPar_ap (i j : Nat) (m : M (List D)) (s : S) : sPar i j m s = bd (m s) fun ds => match ds with
  | [a, b] => bnd (gSlot i a) fun _ => bnd (gSlot j b) fun _ => ret .nx
  | _ => stuck := id rfl
@[simp] theorem bnd_app {α β : Type} (m : M α) (f : α → M β) (s : S) : bnd m f s = bd (m s) f := id rfl
/-! ### slots -/
def vr (o : Option (Option L)) (s : S) : Option (R D) := match o with
  | some (some (.v d)) => some (.ok d s)
  | _ => none
@[simp] theorem eVar_ap (i : Nat) (sl : SL) (hs : HS) : eVar i ⟨sl, hs⟩ = vr (sl[i]?) ⟨sl, hs⟩ := id rfl
@[simp] theorem vr_ok (d : D) (s : S) : vr (some (some (.v d))) s = some (.ok d s) := id rfl
@[simp] theorem gSlot_ap (i : Nat) (d : D) (s : S) : gSlot i d s = some (.ok () ⟨s.sl.set i (some (.v d)), s.hs⟩) := id rfl
@[simp] theorem gTupM_ap (k : Nat) (r : List D → M Unit) (ds : List D) : gTupM k r (.tup ds) = if ds.length = k then r ds else stuck := id rfl
@[simp] theorem gConsM_ap (f : D → M Unit) (r : List D → M Unit) (d : D) (t : List D) : gConsM f r (d :: t) = bnd (f d) fun _ => r t := id rfl
@[simp] theorem gNilM_ap : gNilM [] = ret () := id rfl
/-! ### expressions -/
@[simp] theorem eOp_ap (f : D → D → M D) (a b : M D) (s : S) : eOp f a b s = bd (a s) fun x => bnd b fun y => f x y := id rfl
@[simp] theorem eUn_ap (f : D → M D) (a : M D) (s : S) : eUn f a s = bd (a s) f := id rfl
@[simp] theorem aNil_ap (s : S) : aNil s = some (.ok [] s) := id rfl
@[simp] theorem aCons_ap (a : M D) (r : M (List D)) (s : S) : aCons a r s = bd (a s) fun x => bnd r fun xs => ret (x :: xs) := id rfl
@[simp] theorem eTup_ap (m : M (List D)) (s : S) : eTup m s = bd (m s) fun ds => lft (if lenOk ds.length then some (.tup ds) else none) := id rfl
@[simp] theorem eFrz_ap (m : M (List D)) (s : S) : eFrz m s = bd (m s) fun ds => ret (.lst ds) := id rfl
@[simp] theorem lLst_ap (m : M (List D)) (s : S) : lLst m s = bd (m s) fun ds => lft (if lenOk ds.length then some ds else none) := id rfl
@[simp] theorem tVal_ap (m : M D) (s : S) : tVal m s = bd (m s) fun d => lft d.asB := id rfl
@[simp] theorem tAnd_ap (a b : M Bool) (s : S) : tAnd' a b s = bd (a s) fun x => if x then b else ret false := id rfl
@[simp] theorem tOr_ap (a b : M Bool) (s : S) : tOr' a b s = bd (a s) fun x => if x then ret true else b := id rfl
@[simp] theorem tNot_ap (a : M Bool) (s : S) : tNot' a s = bd (a s) fun x => ret (!x) := id rfl
@[simp] theorem eAnd_ap (a b : M D) (s : S) : eAnd a b s = bd (a s) fun x => bnd (lft x.asB) fun c => if c then b else ret (.bl false) := id rfl
@[simp] theorem eOr_ap (a b : M D) (s : S) : eOr a b s = bd (a s) fun x => bnd (lft x.asB) fun c => if c then ret (.bl true) else b := id rfl
@[simp] theorem eNot_ap (a : M D) (s : S) : eNot a s = bd (a s) fun x => bnd (lft x.asB) fun c => ret (.bl (!c)) := id rfl
@[simp] theorem eIf_ap (c : M Bool) (a b : M D) (s : S) : eIf c a b s = bd (c s) fun x => if x then a else b := id rfl
@[simp] theorem asB_bl (b : Bool) : D.asB (.bl b) = some b := id rfl
@[simp] theorem asI_int (i : Int) : D.asI (.int i) = some i := id rfl
@[simp] theorem asS_str (x : Str) : D.asS (.str x) = some x := id rfl
@[simp] theorem pTru_ap (m : M D) (s : S) : pTru m s = bd (m s) fun d s => lft (truD s.hs d) s := id rfl
@[simp] theorem truD_bl (hs : HS) (b : Bool) : truD hs (.bl b) = some b := id rfl
@[simp] theorem truD_int (hs : HS) (i : Int) : truD hs (.int i) = some (i != 0) := id rfl
@[simp] theorem truD_lst (hs : HS) (ds : List D) : truD hs (.lst ds) = some (!ds.isEmpty) := id rfl
@[simp] theorem truD_tup (hs : HS) (ds : List D) : truD hs (.tup ds) = some (!ds.isEmpty) := id rfl
@[simp] theorem eChain_ap (f f' : D → D → M D) (a b c : M D) (s : S) : eChain f f' a b c s = bd (a s) fun x => bnd b fun y => bnd (f x y) fun z => match z with
  | .bl true => bnd c fun u => f' y u
  | .bl false => ret (.bl false)
  | _ => stuck := id rfl
@[simp] theorem eM1_ap (f : HS → Str → D → Option D) (a b : M D) (s : S) : eM1 f a b s = bd (a s) fun d => bnd (lft d.asS) fun x => bnd b fun e s => lft (f s.hs x e) s := id rfl
@[simp] theorem eSl_ap (a : M D) (lo hi : M (Option Int)) (s : S) : eSl a lo hi s = bd (a s) fun d => bnd lo fun l => bnd hi fun u s => lft (slO s.hs d l u) s := id rfl
@[simp] theorem oNone_ap (s : S) : oNone s = some (.ok none s) := id rfl
@[simp] theorem oSome_ap (m : M D) (s : S) : oSome m s = bd (m s) fun d => lft (d.asI.map some) := id rfl
@[simp] theorem eIsi_ap (T : String) (m : M D) (s : S) : eIsi T m s = bd (m s) fun d s => lft (oIsi T s.hs d) s := id rfl
@[simp] theorem eCall_ap (f : Fn) (N : Nat) (m : M (List D)) (s : S) : eCall f N m s = bd (m s) fun ds => if ds.length = N then runF f ds else stuck := id rfl
def rn (r : Option (R D)) (sl : SL) : Option (R D) := match r with
  | none => none
  | some (.ok d s') => some (.ok d ⟨sl, s'.hs⟩)
  | some (.exc c s') => some (.exc c ⟨sl, s'.hs⟩)
@[simp] theorem runF_ap (f : Fn) (ds : List D) (s : S) : runF f ds s = rn (f ds s.hs) s.sl := id rfl
@[simp] theorem rn_ok (d : D) (s : S) (sl : SL) : rn (some (.ok d s)) sl = some (.ok d ⟨sl, s.hs⟩) := id rfl
@[simp] theorem rn_exc (c : Nat) (s : S) (sl : SL) : rn (some (.exc c s)) sl = some (.exc c ⟨sl, s.hs⟩) := id rfl
@[simp] theorem iW_ap (m : M D) (s : S) : iW m s = bd (m s) fun d => lft (walkO d) := id rfl
@[simp] theorem walkO_l (ds : List D) : walkO (.lst ds) = some ds := id rfl
@[simp] theorem walkO_t (ds : List D) : walkO (.tup ds) = some ds := id rfl
@[simp] theorem walkO_s (z : Str) : walkO (.str z) = some (chrs z) := id rfl
@[simp] theorem iR_ap (m : M (List D)) (s : S) : iR m s = bd (m s) fun ds => lft (rngO ds) := id rfl
@[simp] theorem iE_ap (m : M (List D)) (s : S) : iE m s = bd (m s) fun ds => lft ((oneL ds).bind fun d => match d with
  | .lst ds => some (enumL 0 ds)
  | _ => none) := id rfl
@[simp] theorem eFmt_ap (m : M D) (s : S) : eFmt m s = bd (m s) fun d => lft ((oFmt d).map .str) := id rfl
@[simp] theorem eJs_ap (ms : List (M D)) (s : S) : eJs ms s = jsM ms Str.empty s := id rfl
@[simp] theorem jsM_nil (acc : Str) (s : S) : jsM [] acc s = some (.ok (.str acc) s) := id rfl
@[simp] theorem jsM_cons (m : M D) (ms : List (M D)) (acc : Str) (s : S) : jsM (m :: ms) acc s = bd (m s) fun d => bnd (lft d.asS) fun y => if lenOk (acc ++ y).length then jsM ms (acc ++ y) else stuck := id rfl
@[simp] theorem eBM_ap (T : String) (f : D → List D → M D) (a : M D) (m : M (List D)) (s : S) : eBM T f a m s = bd (a s) fun d s => if tyOk T s.hs d then bnd m (fun ds => f d ds) s else none := id rfl
/-! operators -/
@[simp] theorem dnOp_add : dnOp .Add = fAdd := id rfl
@[simp] theorem dnOp_sub : dnOp .Sub = fSub := id rfl
@[simp] theorem dnOp_mul : dnOp .Mult = fMul := id rfl
@[simp] theorem dnOp_div : dnOp .FloorDiv = fDiv := id rfl
@[simp] theorem dnOp_mod : dnOp .Mod = fMod := id rfl
@[simp] theorem dnOp_pow : dnOp .Pow = fPow := id rfl
@[simp] theorem dnCmp_eq : dnCmp .Eq = fEq := id rfl
@[simp] theorem dnCmp_ne : dnCmp .NotEq = fNe := id rfl
@[simp] theorem dnCmp_lt : dnCmp .Lt = fLt := id rfl
@[simp] theorem dnCmp_le : dnCmp .LtE = fLe := id rfl
@[simp] theorem dnCmp_gt : dnCmp .Gt = fGt := id rfl
@[simp] theorem dnCmp_ge : dnCmp .GtE = fGe := id rfl
@[simp] theorem dnCmp_is : dnCmp .Is = fIsN := id rfl
@[simp] theorem dnCmp_isnot : dnCmp .IsNot = fNotN := id rfl
@[simp] theorem dnCmp_in : dnCmp .In = fIn := id rfl
@[simp] theorem dnCmp_nin : dnCmp .NotIn = fNin := id rfl
@[simp] theorem fAdd_i (i j : Int) : fAdd (.int i) (.int j) = ret (.int (i + j)) := id rfl
@[simp] theorem fAdd_s (x y : Str) : fAdd (.str x) (.str y) = if lenOk (x.length + y.length) then ret (.str (x ++ y)) else stuck := id rfl
@[simp] theorem fAdd_t (a b : List D) : fAdd (.tup a) (.tup b) = if lenOk a.length && lenOk b.length && lenOk (a.length + b.length) then ret (.tup (a ++ b)) else stuck := id rfl
@[simp] theorem fAdd_l (a b : List D) : fAdd (.lst a) (.lst b) = if lenOk (a.length + b.length) then ret (.lst (a ++ b)) else stuck := id rfl
@[simp] theorem fInt_i (f : Int → Int → Option D) (i j : Int) : fInt f (.int i) (.int j) = lft (f i j) := id rfl
@[simp] theorem fSub_i (i j : Int) : fSub (.int i) (.int j) = ret (.int (i - j)) := id rfl
@[simp] theorem fMul_i (i j : Int) : fMul (.int i) (.int j) = lft (if mulOk i j then some (.int (i * j)) else none) := id rfl
@[simp] theorem fDiv_i (i j : Int) : fDiv (.int i) (.int j) = lft (if divOk j then some (.int (i.fdiv j)) else none) := id rfl
@[simp] theorem fMod_i (i j : Int) : fMod (.int i) (.int j) = lft (if decide (j ≠ 0) then some (.int (i.fmod j)) else none) := id rfl
@[simp] theorem fPow_i (i j : Int) : fPow (.int i) (.int j) = lft (if decide (0 ≤ j) && decide (j ≤ 1000) && decide (i.natAbs < 2 ^ 64) then some (.int (i ^ j.toNat)) else none) := id rfl
@[simp] theorem fLt_i (i j : Int) : fLt (.int i) (.int j) = ret (.bl (decide (i < j))) := id rfl
@[simp] theorem fLe_i (i j : Int) : fLe (.int i) (.int j) = ret (.bl (decide (i ≤ j))) := id rfl
@[simp] theorem fGt_i (i j : Int) : fGt (.int i) (.int j) = ret (.bl (decide (j < i))) := id rfl
@[simp] theorem fGe_i (i j : Int) : fGe (.int i) (.int j) = ret (.bl (decide (j ≤ i))) := id rfl
@[simp] theorem fNeg_i (i : Int) : fNeg (.int i) = ret (.int (-i)) := id rfl
@[simp] theorem fEq_i (i j : Int) : fEq (.int i) (.int j) = ret (.bl (decide (i = j))) := id rfl
@[simp] theorem fEq_s (i j : Str) : fEq (.str i) (.str j) = ret (.bl (decide (i = j))) := id rfl
@[simp] theorem fEq_b (i j : Bool) : fEq (.bl i) (.bl j) = ret (.bl (decide (i = j))) := id rfl
@[simp] theorem fEq_is (i : Int) (j : Str) : fEq (.int i) (.str j) = ret (.bl false) := id rfl
@[simp] theorem fEq_si (i : Str) (j : Int) : fEq (.str i) (.int j) = ret (.bl false) := id rfl
@[simp] theorem fNe_i (i j : Int) : fNe (.int i) (.int j) = ret (.bl (!decide (i = j))) := id rfl
@[simp] theorem fNe_s (i j : Str) : fNe (.str i) (.str j) = ret (.bl (!decide (i = j))) := id rfl
@[simp] theorem fIdx_ap (d k : D) (s : S) : fIdx d k s = lft (idxO s.hs d k) s := id rfl
@[simp] theorem fIn_ap (x d : D) (s : S) : fIn x d s = lft ((inO s.hs x d).map D.bl) s := id rfl
@[simp] theorem fNin_ap (x d : D) (s : S) : fNin x d s = lft ((inO s.hs x d).map fun b => D.bl (!b)) s := id rfl
@[simp] theorem idxO_t (hs : HS) (ds : List D) (i : Int) : idxO hs (.tup ds) (.int i) = atI ds i := id rfl
@[simp] theorem idxO_l (hs : HS) (ds : List D) (i : Int) : idxO hs (.lst ds) (.int i) = atI ds i := id rfl
@[simp] theorem f1_ap (f : HS → D → Option D) (d : D) (s : S) : f1 f [d] s = lft (f s.hs d) s := id rfl
@[simp] theorem f2_ap (f : HS → D → D → Option D) (d e : D) (s : S) : f2 f [d, e] s = lft (f s.hs d e) s := id rfl
@[simp] theorem dnBi_len : dnBi .len = f1 oLen := id rfl
@[simp] theorem dnBi_abs : dnBi .abs = f1 oAbs := id rfl
@[simp] theorem dnBi_max : dnBi .max = f2 oMax2 := id rfl
@[simp] theorem dnBi_min : dnBi .min = f2 oMin2 := id rfl
@[simp] theorem dnBi_int : dnBi .int = f1 oInt := id rfl
@[simp] theorem dnBi_str : dnBi .str = f1 oStr := id rfl
@[simp] theorem dnBi_ord : dnBi .ord = f1 oOrd := id rfl
@[simp] theorem dnBi_tuple : dnBi .tuple = f1 oTuple := id rfl
@[simp] theorem dnSm_part : dnSm .part = oPart := id rfl
@[simp] theorem dnSm_split : dnSm .split = oSplit := id rfl
@[simp] theorem dnSm_join : dnSm .join = oJoin := id rfl
@[simp] theorem dnSm_ends : dnSm .ends = oEnds := id rfl
@[simp] theorem dnSm_starts : dnSm .starts = oStarts := id rfl
@[simp] theorem dnSm_find : dnSm .find = oFind := id rfl
@[simp] theorem dnSm_count : dnSm .count = oCount := id rfl
@[simp] theorem oLen_t (hs : HS) (ds : List D) : oLen hs (.tup ds) = some (.int ds.length) := id rfl
@[simp] theorem oLen_l (hs : HS) (ds : List D) : oLen hs (.lst ds) = some (.int ds.length) := id rfl
@[simp] theorem oLen_s (hs : HS) (z : Str) : oLen hs (.str z) = if lenOk z.length then some (.int z.length) else none := id rfl
@[simp] theorem oStr_i (hs : HS) (i : Int) : oStr hs (.int i) = if decide (i.natAbs.log2 < 1920) then some (.str (toString i : String)) else none := id rfl
@[simp] theorem inO_t (hs : HS) (x : D) (ds : List D) : inO hs x (.tup ds) = if x.flat && ds.all D.flat then some (inD x ds) else none := id rfl
@[simp] theorem inO_s (hs : HS) (a b : Str) : inO hs (.str a) (.str b) = some (inS a b) := id rfl
@[simp] theorem slO_l (hs : HS) (ds : List D) (lo hi : Option Int) : slO hs (.lst ds) lo hi = some (.lst (cutL ds lo hi)) := id rfl
/-! ### a def's run -/
noncomputable def fin (hs : HS) (r : Option (R Fl)) : Option (R D) := trimR hs (outFl r)
theorem fnR_ap (N : Nat) (m : M Fl) (ds : List D) (hs : HS) : fnR N m ds hs = fin hs (m ⟨start0 N ds, hs⟩) := rfl
@[simp] theorem fin_rt (hs : HS) (d : D) (sl : SL) : fin hs (some (.ok (.rt d) ⟨sl, hs⟩)) = some (.ok d ⟨[], hs⟩) := by
  show trimR hs (some (.ok d ⟨sl, hs⟩)) = _
  unfold trimR
  simp
@[simp] theorem fin_nx (hs : HS) (sl : SL) : fin hs (some (.ok .nx ⟨sl, hs⟩)) = some (.ok .non ⟨[], hs⟩) := by
  show trimR hs (some (.ok .non ⟨sl, hs⟩)) = _
  unfold trimR
  simp
@[simp] theorem fin_app (hs ls : HS) (d : D) (sl : SL) : fin hs (some (.ok (.rt d) ⟨sl, hs ++ ls⟩)) = if d.nr hs.length = true then some (.ok d ⟨[], hs⟩) else some (.ok d ⟨[], hs ++ ls⟩) := by
  show trimR hs (some (.ok d ⟨sl, hs ++ ls⟩)) = _
  unfold trimR
  simp
@[simp] theorem fin_exc (hs : HS) (c : Nat) (sl : SL) : fin hs (some (.exc c ⟨sl, hs⟩)) = some (.exc c ⟨[], hs⟩) := by
  show trimR hs (some (.exc c ⟨sl, hs⟩)) = _
  unfold trimR
  simp
@[simp] theorem nr_int (m : Nat) (i : Int) : D.nr m (.int i) = true := id rfl
@[simp] theorem nr_str (m : Nat) (i : Str) : D.nr m (.str i) = true := id rfl
@[simp] theorem nr_bl (m : Nat) (i : Bool) : D.nr m (.bl i) = true := id rfl
@[simp] theorem nr_non (m : Nat) : D.nr m .non = true := id rfl
@[simp] theorem nr_tup (m : Nat) (ds : List D) : D.nr m (.tup ds) = nrs m ds := id rfl
@[simp] theorem nr_lst (m : Nat) (ds : List D) : D.nr m (.lst ds) = nrs m ds := id rfl
@[simp] theorem nrs_nil (m : Nat) : nrs m [] = true := id rfl
@[simp] theorem nrs_cons (m : Nat) (d : D) (ds : List D) : nrs m (d :: ds) = (d.nr m && nrs m ds) := id rfl
end Mi

set_option linter.all false
set_option maxRecDepth 100000
set_option maxHeartbeats 4000000
/-! Texts of numbers. -/
namespace Mi
open PySem PySem.Spec PyProof.Rows L2
def nt (n : Nat) : Str := Str.ofString (toString ((n : Nat) : Int))
theorem tl_nt (n : Nat) : TL.tl (nt n) = TL.numL n := TL.tl_num n
theorem oStr_n (hs : HS) (n : Nat) : oStr hs (.int (n : Nat)) = if decide (n.log2 < 1920) then some (.str (nt n)) else none := by
  rw [oStr_i, Int.natAbs_natCast]
  rfl
theorem oFmt_n (n : Nat) : oFmt (.int (n : Nat)) = if decide (n.log2 < 1920) then some (nt n) else none := by
  show (if decide ((n : Int).natAbs.log2 < 1920) then _ else _) = _
  rw [Int.natAbs_natCast]
  rfl
/-- Euclid's way, by remainders -/
theorem gcd_loop {de : De} {hs : HS} : ∀ (b a : Nat) (x : Option L), ∃ y, whl (dnT de (.cmp .NotEq (.v 1) (.int 0))) (dnBs de (.cons (.asg (.s 2) (.op .Mod (.v 0) (.v 1))) (.cons (.asg (.s 0) (.v 1)) (.cons (.asg (.s 1) (.v 2)) .nil)))) ⟨[some (.v (.int (a : Nat))), some (.v (.int (b : Nat))), x], hs⟩
    = some (.ok .nx ⟨[some (.v (.int (Nat.gcd a b : Nat))), some (.v (.int 0)), y], hs⟩) := by
  intro b
  induction b using Nat.strongRecOn with
  | _ b ih =>
    intro a x
    rw [whl_eq]
    by_cases hb : b = 0
    · subst hb
      refine ⟨x, ?_⟩
      simp
    · have hb' : (b : Int) ≠ 0 := by omega
      have hlt : a % b < b := Nat.mod_lt _ (by omega)
      obtain ⟨y, e⟩ := ih (a % b) hlt b (some (.v (.int ((a % b : Nat) : Int))))
      refine ⟨y, ?_⟩
      have em : (a : Int).fmod (b : Int) = ((a % b : Nat) : Int) := by
        rw [Int.fmod_eq_emod_of_nonneg _ (by omega)]
        rfl
      simp [hb, hb', em] at e ⊢
      rw [e]
      rw [Nat.gcd_comm a b, Nat.gcd_rec b a, Nat.gcd_comm b (a % b)]
@[simp high] theorem oAbs_n (hs : HS) (n : Nat) : oAbs hs (.int (n : Nat)) = some (.int (n : Nat)) := by
  show some (D.int (if (n : Int) < 0 then -(n : Int) else (n : Int))) = _
  rw [if_neg (by omega)]
@[simp] theorem oInt_s (hs : HS) (a : Str) : oInt hs (.str a) = if decide (a.length ≤ 640) then (PySem.intText? a).map .int else none := id rfl
@[simp] theorem oPart_s (hs : HS) (a b : Str) : oPart hs a (.str b) = if !(b.length == 0) && lenOk a.length then some (.tup [.str (Txt.partition a b).1, .str (Txt.partition a b).2.1, .str (Txt.partition a b).2.2]) else none := id rfl
@[simp] theorem oSplit_s (hs : HS) (a b : Str) : oSplit hs a (.str b) = if !(b.length == 0) && lenOk (a.length + 2) then some (.lst ((Txt.split a b).map .str)) else none := id rfl
@[simp] theorem idxO_s (hs : HS) (z : Str) (i : Int) : idxO hs (.str z) (.int i) = if lenOk z.length then (atI z.cps.toList i).map fun c => .str ⟨#[c]⟩ else none := id rfl
@[simp] theorem oIsi_str_s (hs : HS) (x : Str) : oIsi "str" hs (.str x) = some (.bl true) := id rfl
@[simp] theorem oIsi_str_i (hs : HS) (x : Int) : oIsi "str" hs (.int x) = some (.bl false) := id rfl
@[simp] theorem oIsi_int_i (hs : HS) (x : Int) : oIsi "int" hs (.int x) = some (.bl true) := id rfl
@[simp] theorem oIsi_bool_i (hs : HS) (x : Int) : oIsi "bool" hs (.int x) = some (.bl false) := id rfl
@[simp] theorem oIsi_int_s (hs : HS) (x : Str) : oIsi "int" hs (.str x) = some (.bl false) := id rfl
@[simp] theorem oIsi_tup_t (hs : HS) (x : List D) : oIsi "tuple" hs (.tup x) = some (.bl true) := id rfl
theorem atI_nat {α : Type} (l : List α) (i : Nat) (h : i < l.length) : atI l (i : Int) = l[i]? := by
  unfold atI ixN
  rw [if_pos (by omega), if_pos (by omega)]
  rfl
@[simp] theorem lenOk_0 : lenOk 0 = true := id rfl
@[simp] theorem lenOk_1 : lenOk 1 = true := id rfl
@[simp] theorem lenOk_2 : lenOk 2 = true := id rfl
@[simp] theorem lenOk_3 : lenOk 3 = true := id rfl
@[simp] theorem lenOk_4 : lenOk 4 = true := id rfl
@[simp] theorem lenOk_5 : lenOk 5 = true := id rfl
@[simp] theorem lenOk_6 : lenOk 6 = true := id rfl
@[simp] theorem lenOk_7 : lenOk 7 = true := id rfl
@[simp] theorem lenOk_8 : lenOk 8 = true := id rfl
@[simp] theorem lenOk_9 : lenOk 9 = true := id rfl
@[simp] theorem lenOk_10 : lenOk 10 = true := id rfl
@[simp] theorem lenOk_11 : lenOk 11 = true := id rfl
@[simp] theorem lenOk_12 : lenOk 12 = true := id rfl
@[simp] theorem lenOk_13 : lenOk 13 = true := id rfl
@[simp] theorem lenOk_14 : lenOk 14 = true := id rfl
@[simp] theorem lenOk_15 : lenOk 15 = true := id rfl
@[simp] theorem atI_0 {α : Type} (a : α) (l : List α) : atI (a :: l) 0 = some a := atI_nat (a :: l) 0 (by simp)
@[simp] theorem atI_1 {α : Type} (a b : α) (l : List α) : atI (a :: b :: l) 1 = some b := atI_nat (a :: b :: l) 1 (by simp)
@[simp] theorem atI_2 {α : Type} (a b c : α) (l : List α) : atI (a :: b :: c :: l) 2 = some c := atI_nat (a :: b :: c :: l) 2 (by simp)
@[simp] theorem atI_3 {α : Type} (a b c d : α) (l : List α) : atI (a :: b :: c :: d :: l) 3 = some d := atI_nat (a :: b :: c :: d :: l) 3 (by simp)
/-! ### a value is itself -/
mutual
theorem eqv_refl : ∀ d : D, d.dat = true → PyData.eqv d.py d.py = true
  | .non, _ => rfl
  | .bl b, _ => by simp [D.py, PyData.eqv]
  | .int i, _ => by simp [D.py, PyData.eqv]
  | .str x, _ => by
    show (x == x) = true
    exact beq_self_eq_true x
  | .tup ds, h => eqvs_refl ds h
  | .lst ds, h => eqvs_refl ds h
  | .dic _ _, h => by cases h
  | .ref _, h => by cases h
  | .fo _ _ _, h => by cases h
  | .exc _, h => by cases h
theorem eqvs_refl : ∀ ds : List D, datAll ds = true → PyData.eqvAll (pyAll ds) (pyAll ds) = true
  | [], _ => rfl
  | d :: ds, h => by
    have h' : (d.dat && datAll ds) = true := h
    obtain ⟨h1, h2⟩ := Bool.and_eq_true_iff.mp h'
    show (PyData.eqv d.py d.py && PyData.eqvAll (pyAll ds) (pyAll ds)) = true
    rw [eqv_refl d h1, eqvs_refl ds h2]
    rfl
end
theorem deq_self {d : D} (h : okD d = true) : deq d d = some true := by
  unfold deq
  have hd : d.dat = true := (Bool.and_eq_true_iff.mp h).1
  cases e : sceq d d with
  | some b =>
    cases d <;> simp [sceq] at e <;> simp [e]
  | none =>
    show (if okD d && okD d then some (PyData.eqv d.py d.py) else none) = some true
    rw [h, eqv_refl d hd]
    rfl
theorem fEq_self {d : D} (h : okD d = true) : fEq d d = ret (.bl true) := by
  unfold fEq
  rw [deq_self h]
  rfl
theorem fNe_self {d : D} (h : okD d = true) : fNe d d = ret (.bl false) := by
  unfold fNe
  rw [deq_self h]
  rfl
/-! ### walks that change nothing but their own name -/
theorem forL_each {j : Nat} {b : M Fl} {hs : HS} {sl : SL} : ∀ {ds : List D}, (∀ d ∈ ds, b ⟨sl.set j (some (.v d)), hs⟩ = some (.ok .nx ⟨sl.set j (some (.v d)), hs⟩)) → ∀ o, ∃ o', forL (gSlot j) b ds ⟨sl.set j o, hs⟩ = some (.ok .nx ⟨sl.set j o', hs⟩)
  | [], _, o => ⟨o, rfl⟩
  | d :: ds, h, o => by
    obtain ⟨o', e⟩ := forL_each (fun x hx => h x (List.mem_cons_of_mem _ hx)) (some (.v d))
    refine ⟨o', ?_⟩
    rw [forL_cons]
    simp only [gSlot_ap, bd_ok, List.set_set]
    rw [h d (List.mem_cons_self ..)]
    exact e
/-! ### signs -/
theorem letters_in : ∀ c < 128, inS ⟨#[c]⟩ (Str.ofString "abcdefghijklmnopqrstuvwxyz") = (decide (97 ≤ c) && decide (c ≤ 122)) := by decide +kernel
theorem figures_in : ∀ c < 128, inS ⟨#[c]⟩ (Str.ofString "0123456789") = (decide (48 ≤ c) && decide (c ≤ 57)) := by decide +kernel
theorem chrs_tl (z : Str) : chrs z = (TL.tl z).map fun c => .str ⟨#[c]⟩ := rfl
theorem len_nt (n : Nat) : (nt n).length = (TL.numL n).length := by rw [TL.len_tl, tl_nt]
theorem numL_head : ∀ {n : Nat}, 0 < n → ∃ c r, TL.numL n = c :: r ∧ c ≠ 48 := by
  intro n
  induction n using Nat.strongRecOn with
  | _ n ih =>
    intro h
    by_cases h9 : n < 10
    · exact ⟨48 + n, [], TL.numL_lt h9, by omega⟩
    · obtain ⟨c, r, e, hc⟩ := ih (n / 10) (by omega) (by omega)
      exact ⟨c, r ++ [48 + n % 10], by rw [TL.numL_step (by omega), e]; rfl, hc⟩
theorem log2_of {n k : Nat} (h : n < 2 ^ k) (hk : 0 < k) : n.log2 < k := by
  by_cases h0 : n = 0
  · subst h0
    simpa using hk
  · exact (Nat.log2_lt h0).mpr h
theorem lcL_each {j : Nat} {e : M D} {y : D → D} {sl : SL} {hs : HS} (hsl : sl.set j none = sl) : ∀ {ds acc : List D}, (∀ d ∈ ds, e ⟨sl.set j (some (.v d)), hs⟩ = some (.ok (y d) ⟨sl.set j (some (.v d)), hs⟩)) → acc.length + ds.length ≤ 100000 →
    lcL (gSlot j) (ret true) e [j] ds acc ⟨sl, hs⟩ = some (.ok (acc ++ ds.map y) ⟨sl, hs⟩)
  | [], acc, _, _ => by
    rw [List.map_nil, List.append_nil]
    rfl
  | d :: ds, acc, h, hl => by
    have hk : lenOk acc.length = true := by
      unfold lenOk
      rw [List.length_cons] at hl
      exact decide_eq_true (by omega)
    have ih := lcL_each (e := e) (y := y) (hs := hs) hsl (ds := ds) (acc := acc ++ [y d]) (fun x hx => h x (List.mem_cons_of_mem _ hx)) (by
      rw [List.length_append, List.length_singleton]
      rw [List.length_cons] at hl
      omega)
    show bnd (gSlot j d) (fun _ => bnd (ret true) fun b => if b then (if lenOk acc.length then bnd e fun y s => lcL (gSlot j) (ret true) e [j] ds (acc ++ [y]) ⟨wipeL s.sl [j], s.hs⟩ else stuck) else fun s => lcL (gSlot j) (ret true) e [j] ds acc ⟨wipeL s.sl [j], s.hs⟩) ⟨sl, hs⟩ = _
    have hw : wipeL (sl.set j (some (.v d))) [j] = sl := by
      show (sl.set j (some (.v d))).set j none = sl
      rw [List.set_set]
      exact hsl
    simp only [bnd_app, gSlot_ap, bd_ok, ret_ap, if_true, hk, h d (List.mem_cons_self ..), hw, ih]
    rw [List.map_cons, List.append_assoc]
    rfl
@[simp] theorem lcM_ap (it : M (List D)) (f : D → M Unit) (t : M Bool) (e : M D) (vs : List Nat) (s : S) : lcM it f t e vs s = bd (it s) fun ds s1 => match lcL f t e vs ds [] ⟨wipeL s1.sl vs, s1.hs⟩ with
  | some (.ok acc s') => some (.ok acc ⟨keepV s1.sl, s'.hs⟩)
  | _ => none := id rfl
@[simp] theorem keepV_nil : keepV [] = [] := id rfl
@[simp] theorem keepV_n (sl : SL) : keepV (none :: sl) = none :: keepV sl := id rfl
@[simp] theorem keepV_v (d : D) (sl : SL) : keepV (some (.v d) :: sl) = some (.v d) :: keepV sl := id rfl
@[simp] theorem wipeL_nil (sl : SL) : wipeL sl [] = sl := id rfl
@[simp] theorem wipeL_cons (sl : SL) (v : Nat) (vs : List Nat) : wipeL sl (v :: vs) = (wipeL sl vs).set v none := id rfl
@[simp] theorem tgIn_s (vs : List Nat) (i : Nat) : tgIn vs (.s i) = vs.contains i := id rfl
/-- Euclid's way, two at once -/
theorem gcd_par {de : De} {hs : HS} : ∀ (b a : Nat), whl (dnT de (.cmp .NotEq (.v 1) (.int 0))) (dnBs de (.cons (.par 0 1 (.cons (.v 1) (.cons (.op .Mod (.v 0) (.v 1)) .nil))) .nil)) ⟨[some (.v (.int (a : Nat))), some (.v (.int (b : Nat)))], hs⟩
    = some (.ok .nx ⟨[some (.v (.int (Nat.gcd a b : Nat))), some (.v (.int 0))], hs⟩) := by
  intro b
  induction b using Nat.strongRecOn with
  | _ b ih =>
    intro a
    rw [whl_eq]
    by_cases hb : b = 0
    · subst hb
      simp
    · have hb' : (b : Int) ≠ 0 := by omega
      have hlt : a % b < b := Nat.mod_lt _ (by omega)
      have e := ih (a % b) hlt b
      have em : (a : Int).fmod (b : Int) = ((a % b : Nat) : Int) := by
        rw [Int.fmod_eq_emod_of_nonneg _ (by omega)]
        rfl
      simp [hb, hb', em] at e ⊢
      rw [e]
      rw [Nat.gcd_comm a b, Nat.gcd_rec b a, Nat.gcd_comm b (a % b)]
theorem mul_small {i j : Int} (h1 : -(2 ^ 64) < i) (h2 : i < 2 ^ 64) : mulOk i j = true := by
  unfold mulOk
  have h := intBits_le_64 h1 h2
  simp [h]
theorem mul_smallR {i j : Int} (h1 : -(2 ^ 64) < j) (h2 : j < 2 ^ 64) : mulOk i j = true := by
  unfold mulOk
  have h := intBits_le_64 h1 h2
  simp [h]
/-! ### literal texts -/
@[simp] theorem ofString_eq (a b : String) : (Str.ofString a = Str.ofString b) = (a = b) := by
  apply propext
  refine ⟨fun h => ?_, fun h => by rw [h]⟩
  have e := congrArg TL.tl h
  rw [TL.tl_ofString, TL.tl_ofString] at e
  have inj : Function.Injective Char.toNat := fun c d z => Char.ext (UInt32.toNat_inj.mp z)
  have e2 : a.toList = b.toList := (List.map_inj_right (fun c d z => inj z)).mp e
  exact String.toList_inj.mp e2
/-! ### the last cell -/
@[simp] theorem get_last (hs : HS) (x : Ob) : (hs ++ [x])[hs.length]? = some x := by simp
@[simp] theorem set_last (hs : HS) (x y : Ob) : (hs ++ [x]).set hs.length y = hs ++ [y] := by
  rw [List.set_append_right _ _ (Nat.le_refl _), Nat.sub_self]
  rfl
@[simp] theorem look_cons (k : Key) (ks : List Key) (d : D) (ds : List D) (x : Key) : look (k :: ks) (d :: ds) x = if k = x then some d else look ks ds x := id rfl
@[simp] theorem look_nil (x : Key) : look [] [] x = none := id rfl
@[simp] theorem key_str (x : Str) : D.key (.str x) = some (.inr x) := id rfl
@[simp] theorem key_int (x : Int) : D.key (.int x) = some (.inl x) := id rfl
@[simp] theorem idxO_ref (hs : HS) (n : Nat) (k : D) : idxO hs (.ref n) k = match asK hs (.ref n) with
    | some kd => k.key.bind (look kd.1 kd.2)
    | none => (asL hs (.ref n)).bind fun ds => k.asI.bind (atI ds) := id rfl
@[simp] theorem inO_ref (hs : HS) (n : Nat) (x : D) : inO hs x (.ref n) = match asK hs (.ref n) with
    | some kd => x.key.map fun k => (look kd.1 kd.2 k).isSome
    | none => (asL hs (.ref n)).bind fun ds => if x.flat && ds.all D.flat then some (inD x ds) else none := id rfl
def asKo (o : Option Ob) : Option (List Key × List D) := match o with
  | some (.dic ks ds) => some (ks, ds)
  | _ => none
@[simp] theorem asK_ref (hs : HS) (n : Nat) : asK hs (.ref n) = asKo hs[n]? := by
  unfold asK asKo
  rfl
@[simp] theorem asKo_d (ks : List Key) (ds : List D) : asKo (some (.dic ks ds)) = some (ks, ds) := id rfl
@[simp] theorem asKo_l (ds : List D) : asKo (some (.lst ds)) = none := id rfl
@[simp] theorem eDisp_ap (ms : List (M D × M D)) (s : S) : eDisp ms s = bd (pairsM ms s) fun ps s => if decide (ps.length ≤ 15) then some (.ok (.ref s.hs.length) ⟨s.sl, s.hs ++ [.dic (mergeD [] [] ps).1 (mergeD [] [] ps).2]⟩) else none := id rfl
@[simp] theorem pairsM_nil (s : S) : pairsM [] s = some (.ok [] s) := id rfl
@[simp] theorem pairsM_cons (mk mv : M D) (r : List (M D × M D)) (s : S) : pairsM ((mk, mv) :: r) s = bd (mk s) fun k => bnd (lft k.key) fun y => bnd mv fun v => bnd (pairsM r) fun ps => ret ((y, v) :: ps) := id rfl
@[simp] theorem mergeD_nil (ks : List Key) (ds : List D) : mergeD ks ds [] = (ks, ds) := id rfl
@[simp] theorem mergeD_cons (ks : List Key) (ds : List D) (k : Key) (d : D) (r : List (Key × D)) : mergeD ks ds ((k, d) :: r) = mergeD (putD ks ds k d).1 (putD ks ds k d).2 r := id rfl
theorem putD_def (ks : List Key) (ds : List D) (k : Key) (d : D) : putD ks ds k d = if (ks.any fun a => decide (a = k)) then (ks, replD ks ds k d) else (ks ++ [k], ds ++ [d]) := rfl
@[simp] theorem setM_ap (o i v : D) (s : S) : setM o i v s = match setO s.hs o i v with
  | some (k, ob) => some (.ok .nx ⟨s.sl, s.hs.set k ob⟩)
  | none => none := id rfl
@[simp] theorem setO_ref (hs : HS) (n : Nat) (i v : D) : setO hs (.ref n) i v = match hs[n]? with
  | some (.lst ds) => i.asI.bind fun j => (ixN ds.length j).map fun m => (n, .lst (ds.set m v))
  | some (.dic ks ds) => if lenOk ks.length then i.key.map fun y => (n, .dic (putD ks ds y v).1 (putD ks ds y v).2) else none
  | _ => none := by
  unfold setO lstAt dicAt
  cases h : hs[n]? with
  | none => simp [h]
  | some o => cases o <;> simp [h]
@[simp] theorem oLen_ref (hs : HS) (n : Nat) : oLen hs (.ref n) = match asK hs (.ref n) with
    | some kd => if lenOk kd.2.length then some (.int kd.1.length) else none
    | none => (asL hs (.ref n)).map fun ds => .int ds.length := id rfl
/-! ### joins -/
theorem strs_map {α : Type} (f : α → Str) : ∀ l : List α, strsOf (l.map fun a => D.str (f a)) = some (l.map f)
  | [] => rfl
  | a :: l => by
    show (strsOf (l.map fun a => D.str (f a))).map (fun r => f a :: r) = _
    rw [strs_map f l]
    rfl
theorem joinL_nil : ∀ parts : List (List Nat), TL.joinL [] parts = parts.flatten
  | [] => rfl
  | [p] => by simp [TL.joinL]
  | p :: q :: r => by
    show p ++ ([] ++ TL.joinL [] (q :: r)) = _
    rw [joinL_nil (q :: r)]
    rfl
theorem join_signs (l : List Nat) : Txt.join (Str.ofString "") (l.map fun c => (⟨#[c]⟩ : Str)) = ⟨l.toArray⟩ := by
  apply TL.ext_tl
  rw [TL.join_eq, TL.tl_join]
  have e : TL.tl (Str.ofString "") = [] := rfl
  rw [e, joinL_nil, List.map_map]
  show ((l.map fun c => [c]).flatten) = l
  induction l with
  | nil => rfl
  | cons a l ih => rw [List.map_cons, List.flatten_cons, ih]; rfl
end Mi

/-! ### the text as data -/
namespace Lk47
open PySem PySem.Spec PyProof.Rows L2 Mi
def top (i : Nat) : Stmt := PySem.Challenge.pw_stylehouse_k47_values_written.main.body.getD i (.Pass ⟨0, 0, 0, 0⟩)
def b0 : Bs := (.cons (.iff (.or (.cons (.not (.e (.isi "str" (.v 0)))) (.cons (.not (.chain .LtE .LtE (.int 1) (.bi .len (.cons (.v 0) .nil)) (.int 8))) .nil))) (.cons (.rt (.bl false)) .nil) .nil) (.cons (.fr (.s 1) (.w (.v 0)) (.cons (.iff (.cmp .NotIn (.v 1) (.gl 0)) (.cons (.rt (.bl false)) .nil) .nil) .nil)) (.cons (.rt (.bl true)) .nil)))
def d0 : Def := ⟨"is_name", 1, ["thing", "sign"], b0⟩
def e0 : He.DefD := ⟨("is_name", none), "is_name", "is_name", defArgs (top 6), defBody (top 6), defScope (top 6), [], []⟩
def b1 : Bs := (.cons (.asg (.s 0) (.bi .abs (.cons (.v 0) .nil))) (.cons (.asg (.s 1) (.bi .abs (.cons (.v 1) .nil))) (.cons (.wh (.cmp .NotEq (.v 1) (.int 0)) (.cons (.asg (.s 2) (.op .Mod (.v 0) (.v 1))) (.cons (.asg (.s 0) (.v 1)) (.cons (.asg (.s 1) (.v 2)) .nil)))) (.cons (.rt (.v 0)) .nil))))
def d1 : Def := ⟨"divisor", 2, ["one", "other", "rest"], b1⟩
def e1 : He.DefD := ⟨("divisor", none), "divisor", "divisor", defArgs (top 9), defBody (top 9), defScope (top 9), [], []⟩
def b2 : Bs := (.cons (.iff (.cmp .Eq (.v 1) (.int 0)) (.cons (.rs 1) .nil) .nil) (.cons (.asg (.s 2) (.call 1 2 (.cons (.v 0) (.cons (.v 1) .nil)))) (.cons (.iff (.cmp .Lt (.v 1) (.int 0)) (.cons (.asg (.s 2) (.neg (.v 2))) .nil) .nil) (.cons (.rt (.tup (.cons (.op .FloorDiv (.v 0) (.v 2)) (.cons (.op .FloorDiv (.v 1) (.v 2)) .nil)))) .nil))))
def d2 : Def := ⟨"fraction", 2, ["top", "bottom", "both"], b2⟩
def e2 : He.DefD := ⟨("fraction", none), "fraction", "fraction", defArgs (top 10), defBody (top 10), defScope (top 10), [], []⟩
def b3 : Bs := (.cons (.iff (.or (.cons (.not (.chain .LtE .LtE (.int 1) (.bi .len (.cons (.v 0) .nil)) (.int 30))) (.cons (.and (.cons (.cmp .Eq (.idx (.v 0) (.int 0)) (.str "0")) (.cons (.cmp .Gt (.bi .len (.cons (.v 0) .nil)) (.int 1)) .nil))) .nil))) (.cons (.rs 0) .nil) .nil) (.cons (.fr (.s 1) (.w (.v 0)) (.cons (.iff (.cmp .NotIn (.v 1) (.gl 2)) (.cons (.rs 0) .nil) .nil) .nil)) (.cons (.rt (.bi .int (.cons (.v 0) .nil))) .nil)))
def d3 : Def := ⟨"read_whole", 1, ["text", "sign"], b3⟩
def e3 : He.DefD := ⟨("read_whole", none), "read_whole", "read_whole", defArgs (top 13), defBody (top 13), defScope (top 13), [], []⟩
def b4 : Bs := (.cons (.asg (.tup (.cons (.s 2) (.cons (.s 3) (.cons (.s 4) .nil)))) (.m1 .part (.v 0) (.str "/"))) (.cons (.iff (.cmp .Eq (.v 3) (.str "")) (.cons (.rt (.tup (.cons (.call 3 1 (.cons (.v 2) .nil)) (.cons (.int 1) .nil)))) .nil) .nil) (.cons (.asg (.s 1) (.tup (.cons (.call 3 1 (.cons (.v 2) .nil)) (.cons (.call 3 1 (.cons (.v 4) .nil)) .nil)))) (.cons (.iff (.cmp .Lt (.idx (.v 1) (.int 1)) (.int 2)) (.cons (.rs 0) .nil) .nil) (.cons (.rt (.v 1)) .nil)))))
def d4 : Def := ⟨"read_share", 1, ["text", "pair", "top", "line", "bottom"], b4⟩
def e4 : He.DefD := ⟨("read_share", none), "read_share", "read_share", defArgs (top 14), defBody (top 14), defScope (top 14), [], []⟩
def b5 : Bs := (.cons (.iff (.cmp .Eq (.v 1) (.int 1)) (.cons (.rt (.bi .str (.cons (.v 0) .nil))) .nil) .nil) (.cons (.rt (.op .Add (.op .Add (.bi .str (.cons (.v 0) .nil)) (.str "/")) (.bi .str (.cons (.v 1) .nil)))) .nil))
def d5 : Def := ⟨"show_share", 2, ["top", "bottom"], b5⟩
def e5 : He.DefD := ⟨("show_share", none), "show_share", "show_share", defArgs (top 15), defBody (top 15), defScope (top 15), [], []⟩
def b6 : Bs := (.cons (.rt (.call 5 2 (.cons (.idx (.v 0) (.int 0)) (.cons (.idx (.v 0) (.int 1)) .nil)))) .nil)
def d6 : Def := ⟨"show_fraction", 1, ["one"], b6⟩
def e6 : He.DefD := ⟨("show_fraction", none), "show_fraction", "show_fraction", defArgs (top 16), defBody (top 16), defScope (top 16), [], []⟩
def b7 : Bs := (.cons (.asg (.s 1) (.call 4 1 (.cons (.v 0) .nil))) (.cons (.iff (.cmp .NotEq (.call 2 2 (.cons (.idx (.v 1) (.int 0)) (.cons (.idx (.v 1) (.int 1)) .nil))) (.v 1)) (.cons (.rs 0) .nil) .nil) (.cons (.rt (.v 1)) .nil)))
def d7 : Def := ⟨"read_fraction", 1, ["text", "pair"], b7⟩
def e7 : He.DefD := ⟨("read_fraction", none), "read_fraction", "read_fraction", defArgs (top 17), defBody (top 17), defScope (top 17), [], []⟩
def b8 : Bs := (.cons (.asg (.s 1) (.idx (.v 0) (.int 0))) (.cons (.iff (.or (.cons (.cmp .Eq (.v 1) (.str "hand")) (.cons (.cmp .Eq (.v 1) (.str "start")) .nil))) (.cons (.rt (.v 1)) .nil) .nil) (.cons (.iff (.cmp .Eq (.v 1) (.str "word")) (.cons (.rt (.idx (.v 0) (.int 1))) .nil) .nil) (.cons (.iff (.cmp .Eq (.v 1) (.str "of")) (.cons (.rt (.op .Add (.op .Add (.call 5 2 (.cons (.idx (.v 0) (.int 2)) (.cons (.idx (.v 0) (.int 3)) .nil))) (.str " of ")) (.idx (.v 0) (.int 1)))) .nil) .nil) (.cons (.iff (.cmp .Eq (.v 1) (.str "number")) (.cons (.rt (.call 5 2 (.cons (.idx (.v 0) (.int 1)) (.cons (.idx (.v 0) (.int 2)) .nil)))) .nil) .nil) (.cons (.rt (.op .Add (.op .Add (.call 5 2 (.cons (.idx (.v 0) (.int 1)) (.cons (.idx (.v 0) (.int 2)) .nil))) (.str " ")) (.v 1))) .nil))))))
def d8 : Def := ⟨"show_value", 1, ["value", "head"], b8⟩
def e8 : He.DefD := ⟨("show_value", none), "show_value", "show_value", defArgs (top 18), defBody (top 18), defScope (top 18), [], []⟩
def b9 : Bs := (.cons (.iff (.or (.cons (.cmp .Eq (.v 0) (.str "hand")) (.cons (.cmp .Eq (.v 0) (.str "start")) .nil))) (.cons (.rt (.tup (.cons (.v 0) .nil))) .nil) .nil) (.cons (.iff (.e (.call 0 1 (.cons (.v 0) .nil))) (.cons (.rt (.tup (.cons (.str "word") (.cons (.v 0) .nil)))) .nil) .nil) (.cons (.asg (.s 1) (.m1 .split (.v 0) (.str " "))) (.cons (.asg (.tup (.cons (.s 2) (.cons (.s 3) .nil))) (.call 4 1 (.cons (.idx (.v 1) (.int 0)) .nil))) (.cons (.iff (.cmp .Eq (.bi .len (.cons (.v 1) .nil)) (.int 1)) (.cons (.rt (.tup (.cons (.str "number") (.cons (.v 2) (.cons (.v 3) .nil))))) .nil) .nil) (.cons (.iff (.and (.cons (.cmp .Eq (.bi .len (.cons (.v 1) .nil)) (.int 2)) (.cons (.cmp .In (.idx (.v 1) (.int 1)) (.tup (.cons (.str "part") (.cons (.str "times") .nil)))) .nil))) (.cons (.rt (.tup (.cons (.idx (.v 1) (.int 1)) (.cons (.v 2) (.cons (.v 3) .nil))))) .nil) .nil) (.cons (.iff (.and (.cons (.cmp .Eq (.bi .len (.cons (.v 1) .nil)) (.int 3)) (.cons (.cmp .Eq (.idx (.v 1) (.int 1)) (.str "of")) (.cons (.cmp .In (.idx (.v 1) (.int 2)) (.gl 1)) .nil)))) (.cons (.rt (.tup (.cons (.str "of") (.cons (.idx (.v 1) (.int 2)) (.cons (.v 2) (.cons (.v 3) .nil)))))) .nil) .nil) (.cons (.rs 0) .nil))))))))
def d9 : Def := ⟨"read_value", 1, ["text", "words", "top", "bottom"], b9⟩
def e9 : He.DefD := ⟨("read_value", none), "read_value", "read_value", defArgs (top 19), defBody (top 19), defScope (top 19), [], []⟩
def b10 : Bs := (.cons (.iff (.cmp .Lt (.v 1) (.bi .len (.cons (.v 0) .nil))) (.cons (.rt (.idx (.v 0) (.v 1))) .nil) .nil) (.cons (.rt (.int 0)) .nil))
def d10 : Def := ⟨"_law_cell", 2, ["_law_script", "_law_k"], b10⟩
def e10 : He.DefD := ⟨("_law_cell", none), "_law_cell", "_law_cell", defArgs (top 21), defBody (top 21), defScope (top 21), [], []⟩
def b11 : Bs := (.cons (.asg (.s 2) (.op .Mod (.op .Add (.op .Mult (.v 0) (.int 48271)) (.op .Mult (.v 1) (.int 7919))) (.int 2147483647))) (.cons (.rt (.op .Mod (.op .Mult (.v 2) (.op .Add (.int 16807) (.op .Mult (.int 2) (.v 1)))) (.int 1000003))) .nil))
def d11 : Def := ⟨"_law_mix", 2, ["_law_cell_here", "_law_way", "_law_first"], b11⟩
def e11 : He.DefD := ⟨("_law_mix", none), "_law_mix", "_law_mix", defArgs (top 22), defBody (top 22), defScope (top 22), [], []⟩
def b12 : Bs := (.cons (.asg (.s 2) (.str "abcdefghijklmnopqrstuvwxyz")) (.cons (.asg (.s 3) (.op .Add (.int 1) (.op .Mod (.call 11 2 (.cons (.v 0) (.cons (.op .Add (.v 1) (.int 3)) .nil))) (.int 8)))) (.cons (.rt (.m1 .join (.str "") (.lc (.rng (.cons (.v 3) .nil)) (.s 4) .no (.idx (.v 2) (.op .Mod (.call 11 2 (.cons (.v 0) (.cons (.op .Add (.v 1) (.op .Mult (.int 5) (.v 4))) .nil))) (.int 26))) [("_law_k", 4)]))) .nil)))
def d12 : Def := ⟨"_law_name", 2, ["_law_cell_here", "_law_way", "_law_letters", "_law_size", "_law_k"], b12⟩
def e12 : He.DefD := ⟨("_law_name", none), "_law_name", "_law_name", defArgs (top 23), defBody (top 23), defScope (top 23), [], []⟩
def b13 : Bs := (.cons (.rt (.and (.cons (.isi "int" (.v 0)) (.cons (.not (.isi "bool" (.v 0))) .nil)))) .nil)
def d13 : Def := ⟨"_law_whole", 1, ["_law_found"], b13⟩
def e13 : He.DefD := ⟨("_law_whole", none), "_law_whole", "_law_whole", defArgs (top 24), defBody (top 24), defScope (top 24), [], []⟩
def b14 : Bs := (.cons (.asg (.s 0) (.lst (.cons (.str "ink") (.cons (.str "size") (.cons (.str "wide") (.cons (.str "least") (.cons (.str "most") (.cons (.str "grow") (.cons (.str "shrink") (.cons (.str "gap") (.cons (.str "pad") (.cons (.str "tall") .nil)))))))))))) (.cons (.rt (.op .Add (.v 0) (.lst (.cons (.str "flow") (.cons (.str "spread") (.cons (.str "stand") .nil)))))) .nil))
def d14 : Def := ⟨"_law_props", 0, ["_law_some"], b14⟩
def e14 : He.DefD := ⟨("_law_props", none), "_law_props", "_law_props", defArgs (top 25), defBody (top 25), defScope (top 25), [], []⟩
def b15 : Bs := (.cons (.iff (.cmp .Eq (.v 1) (.int 1)) (.cons (.rt (.fm (.v 0))) .nil) .nil) (.cons (.rt (.js (.fmt (.v 0) (.txt "/" (.fmt (.v 1) .nil))))) .nil))
def d15 : Def := ⟨"_law_share_text", 2, ["_law_top", "_law_bottom"], b15⟩
def e15 : He.DefD := ⟨("_law_share_text", none), "_law_share_text", "_law_share_text", defArgs (top 26), defBody (top 26), defScope (top 26), [], []⟩
def b16 : Bs := (.cons (.iff (.cmp .In (.idx (.v 0) (.int 0)) (.tup (.cons (.str "hand") (.cons (.str "start") .nil)))) (.cons (.rt (.idx (.v 0) (.int 0))) .nil) .nil) (.cons (.iff (.cmp .Eq (.idx (.v 0) (.int 0)) (.str "word")) (.cons (.rt (.idx (.v 0) (.int 1))) .nil) .nil) (.cons (.iff (.cmp .Eq (.idx (.v 0) (.int 0)) (.str "of")) (.cons (.rt (.op .Add (.op .Add (.call 15 2 (.cons (.idx (.v 0) (.int 2)) (.cons (.idx (.v 0) (.int 3)) .nil))) (.str " of ")) (.idx (.v 0) (.int 1)))) .nil) .nil) (.cons (.asg (.s 1) (.call 15 2 (.cons (.idx (.v 0) (.int 1)) (.cons (.idx (.v 0) (.int 2)) .nil)))) (.cons (.iff (.cmp .Eq (.idx (.v 0) (.int 0)) (.str "number")) (.cons (.rt (.v 1)) .nil) .nil) (.cons (.rt (.op .Add (.op .Add (.v 1) (.str " ")) (.idx (.v 0) (.int 0)))) .nil))))))
def d16 : Def := ⟨"_law_value_text", 1, ["_law_value", "_law_text"], b16⟩
def e16 : He.DefD := ⟨("_law_value_text", none), "_law_value_text", "_law_value_text", defArgs (top 27), defBody (top 27), defScope (top 27), [], []⟩
def b17 : Bs := (.cons (.asg (.s 4) (.call 11 2 (.cons (.v 1) (.cons (.v 3) .nil)))) (.cons (.iff (.cmp .Lt (.op .Mod (.v 4) (.int 7)) (.int 2)) (.cons (.rt (.tup (.cons (.idx (.lst (.cons (.str "hand") (.cons (.str "start") .nil))) (.op .Mod (.v 4) (.int 2))) .nil))) .nil) .nil) (.cons (.iff (.cmp .Eq (.v 0) (.str "ink")) (.cons (.asg (.s 7) (.call 12 2 (.cons (.v 2) (.cons (.op .Add (.v 3) (.int 1)) .nil)))) (.cons (.rt (.tup (.cons (.str "word") (.cons (.ife (.cmp .In (.v 7) (.tup (.cons (.str "hand") (.cons (.str "start") .nil)))) (.str "of") (.v 7)) .nil)))) .nil)) .nil) (.cons (.asg (.s 5) (.disp (.cons (.str "wide") (.lst (.cons (.str "auto") .nil)) (.cons (.str "most") (.lst (.cons (.str "none") .nil)) (.cons (.str "flow") (.lst (.cons (.str "stack") (.cons (.str "row") (.cons (.str "wrap") (.cons (.str "fair") .nil))))) .nil))))) (.cons (.sub (.v 5) (.str "spread") (.lst (.cons (.str "left") (.cons (.str "middle") (.cons (.str "right") (.cons (.str "apart") .nil)))))) (.cons (.sub (.v 5) (.str "stand") (.lst (.cons (.str "top") (.cons (.str "middle") (.cons (.str "bottom") (.cons (.str "full") .nil)))))) (.cons (.iff (.or (.cons (.cmp .In (.v 0) (.tup (.cons (.str "flow") (.cons (.str "spread") (.cons (.str "stand") .nil))))) (.cons (.and (.cons (.cmp .In (.v 0) (.v 5)) (.cons (.cmp .Eq (.op .Mod (.v 4) (.int 7)) (.int 2)) .nil))) .nil))) (.cons (.rt (.tup (.cons (.str "word") (.cons (.idx (.idx (.v 5) (.v 0)) (.op .Mod (.op .FloorDiv (.v 4) (.int 7)) (.bi .len (.cons (.idx (.v 5) (.v 0)) .nil)))) .nil)))) .nil) .nil) (.cons (.asg (.s 6) (.tup (.cons (.op .Mod (.v 1) (.op .Pow (.int 10) (.int 30))) (.cons (.op .Add (.int 1) (.op .Mod (.v 2) (.op .Sub (.op .Pow (.int 10) (.int 30)) (.int 1)))) .nil)))) (.cons (.iff (.cmp .Eq (.op .Mod (.op .FloorDiv (.v 4) (.int 7)) (.int 3)) (.int 0)) (.cons (.asg (.s 6) (.tup (.cons (.op .Mod (.op .FloorDiv (.v 4) (.int 21)) (.int 12)) (.cons (.op .Add (.int 1) (.op .Mod (.op .FloorDiv (.v 4) (.int 252)) (.int 4))) .nil)))) .nil) .nil) (.cons (.iff (.cmp .Eq (.op .Mod (.v 4) (.int 7)) (.int 3)) (.cons (.rt (.op .Add (.tup (.cons (.str "of") (.cons (.idx (.call 14 0 .nil) (.op .Add (.int 1) (.op .Mod (.op .FloorDiv (.v 4) (.int 21)) (.int 9)))) .nil))) (.v 6))) .nil) .nil) (.cons (.iff (.and (.cons (.cmp .Eq (.op .Mod (.v 4) (.int 7)) (.int 4)) (.cons (.cmp .In (.v 0) (.tup (.cons (.str "wide") (.cons (.str "least") (.cons (.str "most") .nil))))) .nil))) (.cons (.rt (.op .Add (.tup (.cons (.str "part") .nil)) (.v 6))) .nil) .nil) (.cons (.rt (.op .Add (.tup (.cons (.idx (.lst (.cons (.str "number") (.cons (.str "times") .nil))) (.op .Mod (.v 4) (.int 2))) .nil)) (.v 6))) .nil))))))))))))
def d17 : Def := ⟨"_law_noted", 4, ["_law_prop", "_law_cell_here", "_law_other", "_law_way", "_law_draw", "_law_words", "_law_pair", "_law_word"], b17⟩
def e17 : He.DefD := ⟨("_law_noted", none), "_law_noted", "_law_noted", defArgs (top 28), defBody (top 28), defScope (top 28), [], []⟩
def b18 : Bs := (.cons (.wh (.cmp .NotEq (.v 1) (.int 0)) (.cons (.par 0 1 (.cons (.v 1) (.cons (.op .Mod (.v 0) (.v 1)) .nil))) .nil)) (.cons (.rt (.v 0)) .nil))
def d18 : Def := ⟨"_law_divisor", 2, ["_law_one", "_law_other"], b18⟩
def e18 : He.DefD := ⟨("_law_divisor", none), "_law_divisor", "_law_divisor", defArgs (top 29), defBody (top 29), defScope (top 29), [], []⟩
def b19 : Bs := (.cons (.asg (.s 2) (.call 18 2 (.cons (.v 0) (.cons (.v 1) .nil)))) (.cons (.rt (.tup (.cons (.op .FloorDiv (.v 0) (.v 2)) (.cons (.op .FloorDiv (.v 1) (.v 2)) .nil)))) .nil))
def d19 : Def := ⟨"_law_lowest", 2, ["_law_top", "_law_bottom", "_law_both"], b19⟩
def e19 : He.DefD := ⟨("_law_lowest", none), "_law_lowest", "_law_lowest", defArgs (top 30), defBody (top 30), defScope (top 30), [], []⟩
def b20 : Bs := (.cons (.iff (.or (.cons (.not (.e (.isi "tuple" (.v 0)))) (.cons (.cmp .NotEq (.bi .len (.cons (.v 0) .nil)) (.bi .len (.cons (.v 1) .nil))) .nil))) (.cons (.rt (.bl false)) .nil) .nil) (.cons (.fr (.s 2) (.rng (.cons (.bi .len (.cons (.v 1) .nil)) .nil)) (.cons (.iff (.and (.cons (.e (.isi "str" (.idx (.v 1) (.v 2)))) (.cons (.not (.e (.isi "str" (.idx (.v 0) (.v 2))))) .nil))) (.cons (.rt (.bl false)) .nil) .nil) (.cons (.iff (.and (.cons (.not (.e (.isi "str" (.idx (.v 1) (.v 2))))) (.cons (.not (.e (.call 13 1 (.cons (.idx (.v 0) (.v 2)) .nil)))) .nil))) (.cons (.rt (.bl false)) .nil) .nil) .nil))) (.cons (.rt (.cmp .Eq (.v 0) (.v 1))) .nil)))
def d20 : Def := ⟨"_law_alike", 2, ["_law_found", "_law_due", "_law_k"], b20⟩
def e20 : He.DefD := ⟨("_law_alike", none), "_law_alike", "_law_alike", defArgs (top 31), defBody (top 31), defScope (top 31), [], []⟩
def b21 : Bs := (.cons (.asg (.s 1) (.op .Mod (.call 10 2 (.cons (.v 0) (.cons (.int 0) .nil))) (.op .Pow (.int 10) (.int 30)))) (.cons (.asg (.s 2) (.op .Add (.int 1) (.op .Mod (.call 10 2 (.cons (.v 0) (.cons (.int 1) .nil))) (.op .Sub (.op .Pow (.int 10) (.int 30)) (.int 1))))) (.cons (.iff (.cmp .Eq (.op .Mod (.call 10 2 (.cons (.v 0) (.cons (.int 1) .nil))) (.int 4)) (.int 2)) (.cons (.asg (.s 1) (.op .Mod (.v 1) (.int 40))) (.cons (.asg (.s 2) (.op .Add (.int 1) (.op .Mod (.op .FloorDiv (.call 10 2 (.cons (.v 0) (.cons (.int 1) .nil))) (.int 4)) (.int 12)))) .nil)) .nil) (.cons (.asg (.s 3) (.call 19 2 (.cons (.v 1) (.cons (.v 2) .nil)))) (.cons (.asg (.s 4) (.call 15 2 (.cons (.idx (.v 3) (.int 0)) (.cons (.idx (.v 3) (.int 1)) .nil)))) (.cons (.iff (.or (.cons (.not (.e (.isi "str" (.call 6 1 (.cons (.v 3) .nil))))) (.cons (.cmp .NotEq (.call 6 1 (.cons (.v 3) .nil)) (.v 4)) .nil))) (.cons (.rt (.bl false)) .nil) .nil) (.cons (.iff (.not (.e (.call 20 2 (.cons (.call 7 1 (.cons (.v 4) .nil)) (.cons (.v 3) .nil))))) (.cons (.rt (.bl false)) .nil) .nil) (.cons (.asg (.s 5) (.call 19 2 (.cons (.op .Add (.op .Mult (.op .Mult (.op .Mult (.v 1) (.op .Pow (.int 10) (.int 64))) (.op .Pow (.int 10) (.int 64))) (.op .Pow (.int 10) (.int 64))) (.int 1)) (.cons (.v 2) .nil)))) (.cons (.asg (.s 4) (.call 15 2 (.cons (.idx (.v 5) (.int 0)) (.cons (.idx (.v 5) (.int 1)) .nil)))) (.cons (.iff (.or (.cons (.cmp .NotEq (.call 6 1 (.cons (.v 5) .nil)) (.v 4)) (.cons (.cmp .NotEq (.call 8 1 (.cons (.op .Add (.tup (.cons (.str "number") .nil)) (.v 5)) .nil)) (.v 4)) .nil))) (.cons (.rt (.bl false)) .nil) .nil) (.cons (.iff (.cmp .NotEq (.call 8 1 (.cons (.op .Add (.tup (.cons (.str "part") .nil)) (.v 5)) .nil)) (.op .Add (.v 4) (.str " part"))) (.cons (.rt (.bl false)) .nil) .nil) (.cons (.fr (.tup (.cons (.s 6) (.cons (.s 7) .nil))) (.enum (.cons (.sl (.v 0) (.so (.int 2)) (.so (.int 22))) .nil)) (.cons (.asg (.s 8) (.idx (.call 14 0 .nil) (.op .Mod (.call 11 2 (.cons (.v 7) (.cons (.v 6) .nil))) (.int 13)))) (.cons (.asg (.s 9) (.call 17 4 (.cons (.v 8) (.cons (.v 7) (.cons (.call 10 2 (.cons (.v 0) (.cons (.op .Add (.int 1) (.v 6)) .nil))) (.cons (.op .Add (.int 40) (.v 6)) .nil)))))) (.cons (.asg (.s 4) (.call 16 1 (.cons (.v 9) .nil))) (.cons (.asg (.s 10) (.call 8 1 (.cons (.v 9) .nil))) (.cons (.iff (.or (.cons (.not (.e (.isi "str" (.v 10)))) (.cons (.cmp .NotEq (.v 10) (.v 4)) (.cons (.not (.e (.call 20 2 (.cons (.call 9 1 (.cons (.v 4) .nil)) (.cons (.v 9) .nil))))) .nil)))) (.cons (.rt (.bl false)) .nil) .nil) .nil)))))) (.cons (.rt (.bl true)) .nil)))))))))))))
def d21 : Def := ⟨"law", 1, ["_law_script", "_law_top", "_law_bottom", "_law_one", "_law_text", "_law_great", "_law_k", "_law_cell_here", "_law_prop", "_law_value", "_law_told"], b21⟩
def e21 : He.DefD := ⟨("law", none), "law", "law", defArgs (top 32), defBody (top 32), defScope (top 32), [], []⟩
def dfs : List Def := ([d0, d1, d2, d3, d4, d5, d6, d7, d8, d9, d10, d11, d12, d13, d14, d15, d16, d17, d18, d19, d20, d21] : List Def)
def des : List He.DefD := ([e0, e1, e2, e3, e4, e5, e6, e7, e8, e9, e10, e11, e12, e13, e14, e15, e16, e17, e18, e19, e20, e21] : List He.DefD)
def cs : List (Str × Co) := [("LETTERS", .str "abcdefghijklmnopqrstuvwxyz"), ("NUMBERS", .tup [.str "size", .str "wide", .str "least", .str "most", .str "grow", .str "shrink", .str "gap", .str "pad", .str "tall"]), ("FIGURES", .str "0123456789")]
def bs : List Str := ["abs", "bool", "enumerate", "int", "isinstance", "len", "range", "str", "tuple"]
def cl : List Str := ["NoText", "NoFraction"]
abbrev nm : Nm := nmOf cs dfs bs cl
theorem ck0 : chkD nm d0 e0 = true := by decide +kernel
theorem bd0 : BindOk d0 e0 := fun _ _ _ _ _ _ us hl => match us, hl with | [_], _ => rfl
theorem ck1 : chkD nm d1 e1 = true := by decide +kernel
theorem bd1 : BindOk d1 e1 := fun _ _ _ _ _ _ us hl => match us, hl with | [_, _], _ => rfl
theorem ck2 : chkD nm d2 e2 = true := by decide +kernel
theorem bd2 : BindOk d2 e2 := fun _ _ _ _ _ _ us hl => match us, hl with | [_, _], _ => rfl
theorem ck3 : chkD nm d3 e3 = true := by decide +kernel
theorem bd3 : BindOk d3 e3 := fun _ _ _ _ _ _ us hl => match us, hl with | [_], _ => rfl
theorem ck4 : chkD nm d4 e4 = true := by decide +kernel
theorem bd4 : BindOk d4 e4 := fun _ _ _ _ _ _ us hl => match us, hl with | [_], _ => rfl
theorem ck5 : chkD nm d5 e5 = true := by decide +kernel
theorem bd5 : BindOk d5 e5 := fun _ _ _ _ _ _ us hl => match us, hl with | [_, _], _ => rfl
theorem ck6 : chkD nm d6 e6 = true := by decide +kernel
theorem bd6 : BindOk d6 e6 := fun _ _ _ _ _ _ us hl => match us, hl with | [_], _ => rfl
theorem ck7 : chkD nm d7 e7 = true := by decide +kernel
theorem bd7 : BindOk d7 e7 := fun _ _ _ _ _ _ us hl => match us, hl with | [_], _ => rfl
theorem ck8 : chkD nm d8 e8 = true := by decide +kernel
theorem bd8 : BindOk d8 e8 := fun _ _ _ _ _ _ us hl => match us, hl with | [_], _ => rfl
theorem ck9 : chkD nm d9 e9 = true := by decide +kernel
theorem bd9 : BindOk d9 e9 := fun _ _ _ _ _ _ us hl => match us, hl with | [_], _ => rfl
theorem ck10 : chkD nm d10 e10 = true := by decide +kernel
theorem bd10 : BindOk d10 e10 := fun _ _ _ _ _ _ us hl => match us, hl with | [_, _], _ => rfl
theorem ck11 : chkD nm d11 e11 = true := by decide +kernel
theorem bd11 : BindOk d11 e11 := fun _ _ _ _ _ _ us hl => match us, hl with | [_, _], _ => rfl
theorem ck12 : chkD nm d12 e12 = true := by decide +kernel
theorem bd12 : BindOk d12 e12 := fun _ _ _ _ _ _ us hl => match us, hl with | [_, _], _ => rfl
theorem ck13 : chkD nm d13 e13 = true := by decide +kernel
theorem bd13 : BindOk d13 e13 := fun _ _ _ _ _ _ us hl => match us, hl with | [_], _ => rfl
theorem ck14 : chkD nm d14 e14 = true := by decide +kernel
theorem bd14 : BindOk d14 e14 := fun _ _ _ _ _ _ us hl => match us, hl with | [], _ => rfl
theorem ck15 : chkD nm d15 e15 = true := by decide +kernel
theorem bd15 : BindOk d15 e15 := fun _ _ _ _ _ _ us hl => match us, hl with | [_, _], _ => rfl
theorem ck16 : chkD nm d16 e16 = true := by decide +kernel
theorem bd16 : BindOk d16 e16 := fun _ _ _ _ _ _ us hl => match us, hl with | [_], _ => rfl
theorem ck17 : chkD nm d17 e17 = true := by decide +kernel
theorem bd17 : BindOk d17 e17 := fun _ _ _ _ _ _ us hl => match us, hl with | [_, _, _, _], _ => rfl
theorem ck18 : chkD nm d18 e18 = true := by decide +kernel
theorem bd18 : BindOk d18 e18 := fun _ _ _ _ _ _ us hl => match us, hl with | [_, _], _ => rfl
theorem ck19 : chkD nm d19 e19 = true := by decide +kernel
theorem bd19 : BindOk d19 e19 := fun _ _ _ _ _ _ us hl => match us, hl with | [_, _], _ => rfl
theorem ck20 : chkD nm d20 e20 = true := by decide +kernel
theorem bd20 : BindOk d20 e20 := fun _ _ _ _ _ _ us hl => match us, hl with | [_, _], _ => rfl
theorem ck21 : chkD nm d21 e21 = true := by decide +kernel
theorem bd21 : BindOk d21 e21 := fun _ _ _ _ _ _ us hl => match us, hl with | [_], _ => rfl
theorem all : AllD nm dfs des := (.cons ck0 bd0 (.cons ck1 bd1 (.cons ck2 bd2 (.cons ck3 bd3 (.cons ck4 bd4 (.cons ck5 bd5 (.cons ck6 bd6 (.cons ck7 bd7 (.cons ck8 bd8 (.cons ck9 bd9 (.cons ck10 bd10 (.cons ck11 bd11 (.cons ck12 bd12 (.cons ck13 bd13 (.cons ck14 bd14 (.cons ck15 bd15 (.cons ck16 bd16 (.cons ck17 bd17 (.cons ck18 bd18 (.cons ck19 bd19 (.cons ck20 bd20 (.cons ck21 bd21 .nil))))))))))))))))))))))
/-! ### the head -/
def names : List PySem.Str := (["HouseError", "NoFraction", "NoText", "LETTERS", "is_name", "NUMBERS", "divisor", "fraction", "FIGURES", "read_whole", "read_share", "show_share", "show_fraction", "read_fraction", "show_value", "read_value", "_law_cell", "_law_mix", "_law_name", "_law_whole", "_law_props", "_law_share_text", "_law_value_text", "_law_noted", "_law_divisor", "_law_lowest", "_law_alike"] : List PySem.Str)
abbrev hk : PySem.W.Hook := hookE 5 (faOf cs des bs cl) des (exOf cs)
def ob (s : PySem.W.SharedT) : AlE := obsEG 5 (faOf cs des bs cl) des (exOf cs) (HandSHeadRun.getT s)
theorem ob_eq (s : PySem.W.SharedT) : ob s = hk.obs s.abs := obsEG_eq (HandSHeadRun.getT_eq s)
abbrev RR : PySem.W.OpenRow := PySem.W.OpenLaw.row PySem.Challenge.rw_stylehouse_k47_values_written
theorem run (w : World) : HandSHeadRun.RunEq RR (PySem.W.view RR.prog [32]) hk ob 400000 names w := by
  intro os
  kernel_rfl
/-- what the defs do, k levels deep -/
noncomputable def F (k i : Nat) : Fn := FK (csOf cs) dfs k i
theorem F_of {k i : Nat} {d : Def} (h : dfs[i]? = some d) : F (k + 1) i = fnR d.N.length (dnBs ⟨csOf cs, F k⟩ d.body) := by
  show (match dfs[i]? with
    | some d => fnR d.N.length (dnBs ⟨csOf cs, FK (csOf cs) dfs k⟩ d.body)
    | none => fun _ _ => none) = _
  rw [h]
  rfl
end Lk47

set_option linter.all false
set_option maxRecDepth 100000
set_option maxHeartbeats 4000000
namespace Lk47
open PySem PySem.Spec PyProof.Rows L2 Mi
theorem cs0 : csOf cs 0 = .str (Str.ofString "abcdefghijklmnopqrstuvwxyz") := rfl
theorem cs2 : csOf cs 2 = .str (Str.ofString "0123456789") := rfl
/-! divisor, fraction -/
theorem f1_ (k : Nat) (a b : Nat) (hs : HS) : F (k + 1) 1 [.int (a : Nat), .int (b : Nat)] hs = some (.ok (.int (Nat.gcd a b : Nat)) ⟨[], hs⟩) := by
  rw [F_of (d := d1) rfl, fnR_ap]
  obtain ⟨y, e⟩ := gcd_loop (de := ⟨csOf cs, F k⟩) (hs := hs) b a none
  simp [d1, b1, start0] at e ⊢
  rw [e]
  simp
theorem f2_ (k : Nat) (a b : Nat) (hs : HS) (hb : 0 < b) (h1 : (Nat.gcd a b).log2 < 9000) : F (k + 2) 2 [.int (a : Nat), .int (b : Nat)] hs = some (.ok (.tup [.int (a / Nat.gcd a b : Nat), .int (b / Nat.gcd a b : Nat)]) ⟨[], hs⟩) := by
  rw [F_of (d := d2) rfl, fnR_ap]
  have hg : 0 < Nat.gcd a b := Nat.gcd_pos_of_pos_right _ hb
  have e1 : (a : Int).fdiv ((Nat.gcd a b : Nat) : Int) = ((a / Nat.gcd a b : Nat) : Int) := by
    rw [Int.fdiv_eq_ediv_of_nonneg _ (by omega)]
    rfl
  have e2 : (b : Int).fdiv ((Nat.gcd a b : Nat) : Int) = ((b / Nat.gcd a b : Nat) : Int) := by
    rw [Int.fdiv_eq_ediv_of_nonneg _ (by omega)]
    rfl
  have hd : divOk ((Nat.gcd a b : Nat) : Int) = true := by
    unfold divOk
    simp [h1]
    omega
  have hb0 : ¬ (b : Int) = 0 := by omega
  have hb1 : ¬ (b : Int) < 0 := by omega
  simp [d2, b2, start0, f1_, hb0, hb1, e1, e2, hd, lenOk, Nat.ne_of_gt hb]
/-! show_share, show_fraction -/
def sh (t b : Nat) : Str := if b = 1 then nt t else nt t ++ Str.ofString "/" ++ nt b
theorem len_add (x y : Str) : (x ++ y).length = x.length + y.length := by rw [TL.len_tl, TL.tl_append, List.length_append, TL.len_tl, TL.len_tl]
theorem lenOk_le {n m : Nat} (h : n ≤ m) (hm : m ≤ 100000) : lenOk n = true := by
  unfold lenOk
  exact decide_eq_true (by omega)
theorem f5_ (k : Nat) (t b : Nat) (hs : HS) (ht : t < 10 ^ 300) (hb : b < 10 ^ 300) : F (k + 1) 5 [.int (t : Nat), .int (b : Nat)] hs = some (.ok (.str (sh t b)) ⟨[], hs⟩) := by
  rw [F_of (d := d5) rfl, fnR_ap]
  have l1 : t.log2 < 1920 := log2_of (Nat.lt_of_lt_of_le ht (by decide)) (by decide)
  have l2 : b.log2 < 1920 := log2_of (Nat.lt_of_lt_of_le hb (by decide)) (by decide)
  have n1 : (nt t).length ≤ 300 := by rw [len_nt]; exact TL.numL_len (by decide) ht
  have n2 : (nt b).length ≤ 300 := by rw [len_nt]; exact TL.numL_len (by decide) hb
  have n3 : (Str.ofString "/").length = 1 := by decide +kernel
  unfold sh
  by_cases h : b = 1
  · subst h
    simp [d5, b5, start0, oStr_n, l1, -oStr_i]
  · have hb' : ¬ ((b : Nat) : Int) = 1 := by omega
    have k1 : lenOk ((nt t).length + 1) = true := lenOk_le (m := 1000) (by omega) (by decide)
    have k2 : lenOk ((nt t).length + 1 + (nt b).length) = true := lenOk_le (m := 1000) (by omega) (by decide)
    simp [d5, b5, start0, oStr_n, l1, l2, -oStr_i, h, hb', n3, len_add, k1, k2]
theorem f6_ (k : Nat) (t b : Nat) (hs : HS) (ht : t < 10 ^ 300) (hb : b < 10 ^ 300) : F (k + 2) 6 [.tup [.int (t : Nat), .int (b : Nat)]] hs = some (.ok (.str (sh t b)) ⟨[], hs⟩) := by
  rw [F_of (d := d6) rfl, fnR_ap]
  have a0 : atI [D.int (t : Nat), D.int (b : Nat)] 0 = some (D.int (t : Nat)) := rfl
  have a1 : atI [D.int (t : Nat), D.int (b : Nat)] 1 = some (D.int (b : Nat)) := rfl
  simp [d6, b6, start0, f5_, ht, hb, a0, a1]
end Lk47

set_option linter.all false
set_option maxRecDepth 100000
set_option maxHeartbeats 4000000
namespace Lk47
open PySem PySem.Spec PyProof.Rows L2 Mi
/-! read_whole -/
theorem fig_ok (n : Nat) {d : D} (h : d ∈ chrs (nt n)) : ∃ c, d = .str ⟨#[c]⟩ ∧ 48 ≤ c ∧ c ≤ 57 := by
  rw [chrs_tl, tl_nt] at h
  obtain ⟨c, hc, e⟩ := List.mem_map.mp h
  have z := TL.numL_digits n c hc
  exact ⟨c, e.symm, z.1, z.2⟩
theorem f3_ (k : Nat) (n : Nat) (hs : HS) (hn : n < 10 ^ 30) : F (k + 1) 3 [.str (nt n)] hs = some (.ok (.int (n : Nat)) ⟨[], hs⟩) := by
  rw [F_of (d := d3) rfl, fnR_ap]
  have l1 : (nt n).length ≤ 30 := by rw [len_nt]; exact TL.numL_len (by decide) hn
  have l0 : 1 ≤ (nt n).length := by
    rw [len_nt]
    have := TL.numL_ne n
    cases h : TL.numL n with
    | nil => exact (this h).elim
    | cons _ _ => simp
  have lk : lenOk (nt n).length = true := lenOk_le (m := 100) (by omega) (by decide)
  have it : PySem.intText? (nt n) = some (n : Int) := TL.int_num (by
    have := TL.numL_len (n := n) (k := 30) (by decide) hn
    omega)
  obtain ⟨c, r, ec, hc0⟩ : ∃ c r, TL.tl (nt n) = c :: r ∧ (c = 48 → (nt n).length = 1) := by
    rw [tl_nt]
    by_cases h0 : n = 0
    · subst h0
      exact ⟨48, [], by decide, fun _ => by rw [len_nt]; decide⟩
    · obtain ⟨c, r, e, hc⟩ := numL_head (by omega : 0 < n)
      exact ⟨c, r, e, fun z => (hc z).elim⟩
  have ea : atI (nt n).cps.toList 0 = some c := by
    show atI (TL.tl (nt n)) 0 = some c
    rw [ec]
    simp
  have q1 : (1 : Int) ≤ ((nt n).length : Nat) := by omega
  have q2 : (((nt n).length : Nat) : Int) ≤ 30 := by omega
  have q3 : (nt n).length ≤ 640 := by omega
  obtain ⟨o', e⟩ := forL_each (j := 1) (b := dnBs ⟨csOf cs, F k⟩ (.cons (.iff (.cmp .NotIn (.v 1) (.gl 2)) (.cons (.rs 0) .nil) .nil) .nil)) (hs := hs) (sl := [some (.v (.str (nt n))), none]) (ds := chrs (nt n)) (fun d hd => by
    obtain ⟨x, rfl, h1, h2⟩ := fig_ok n hd
    have z := figures_in x (by omega)
    simp [cs2, z, h1, h2]) none
  simp [cs2] at e
  by_cases h48 : (⟨#[c]⟩ : Str) = Str.ofString "0"
  · have hc : c = 48 := by
      have z : (⟨#[48]⟩ : Str) = Str.ofString "0" := by decide +kernel
      rw [← z] at h48
      simpa using h48
    have hl := hc0 hc
    have q4 : ¬ (1 : Int) < ((nt n).length : Nat) := by omega
    simp [d3, b3, start0, lk, q1, q2, ea, h48, q4, cs2, e, it, hl]
  · simp [d3, b3, start0, lk, q1, q2, ea, h48, cs2, e, it, q3]
end Lk47

set_option linter.all false
set_option maxRecDepth 100000
set_option maxHeartbeats 4000000
namespace Lk47
open PySem PySem.Spec PyProof.Rows L2 Mi
theorem slash_tl : TL.tl (Str.ofString "/") = 47 :: [] := by decide +kernel
theorem slash_len : (Str.ofString "/").length = 1 := by decide +kernel
theorem nt_free (n : Nat) {s : Nat} (h : s < 48 ∨ 57 < s) : s ∉ TL.tl (nt n) := by
  rw [tl_nt]
  exact TL.numL_free h
theorem nt_len {n : Nat} (h : n < 10 ^ 30) : (nt n).length ≤ 30 := by
  rw [len_nt]
  exact TL.numL_len (by decide) h
theorem sh_len {t b : Nat} (ht : t < 10 ^ 30) (hb : b < 10 ^ 30) : (sh t b).length ≤ 61 := by
  have h1 := nt_len ht
  have h2 := nt_len hb
  unfold sh
  split
  · omega
  · rw [len_add, len_add, slash_len]
    omega
/-! read_share -/
theorem f4_ (k : Nat) (t b : Nat) (hs : HS) (ht : t < 10 ^ 30) (hb : b < 10 ^ 30) (h0 : 0 < b) : F (k + 2) 4 [.str (sh t b)] hs = some (.ok (.tup [.int (t : Nat), .int (b : Nat)]) ⟨[], hs⟩) := by
  rw [F_of (d := d4) rfl, fnR_ap]
  have lk : lenOk (sh t b).length = true := lenOk_le (m := 61) (sh_len ht hb) (by decide)
  by_cases h : b = 1
  · subst h
    have e : sh t 1 = nt t := if_pos rfl
    rw [e] at lk ⊢
    have p : Txt.partition (nt t) (Str.ofString "/") = (nt t, Str.empty, Str.empty) := TL.partition_none slash_tl (nt_free t (by omega))
    have es : Str.empty = Str.ofString "" := rfl
    simp [d4, b4, start0, lk, slash_len, p, es, f3_, ht]
  · have e : sh t b = nt t ++ Str.ofString "/" ++ nt b := if_neg h
    rw [e] at lk ⊢
    have p : Txt.partition (nt t ++ Str.ofString "/" ++ nt b) (Str.ofString "/") = (nt t, Str.ofString "/", nt b) := TL.partition_app slash_tl (nt_free t (by omega))
    have ne : ¬ Str.ofString "/" = Str.ofString "" := by decide +kernel
    have b2 : ¬ (b : Int) < 2 := by omega
    simp [d4, b4, start0, lk, slash_len, p, ne, f3_, ht, hb, b2]
/-! read_fraction -/
theorem f7_ (k : Nat) (t b : Nat) (hs : HS) (ht : t < 10 ^ 30) (hb : b < 10 ^ 30) (h0 : 0 < b) (hg : Nat.gcd t b = 1) : F (k + 3) 7 [.str (sh t b)] hs = some (.ok (.tup [.int (t : Nat), .int (b : Nat)]) ⟨[], hs⟩) := by
  rw [F_of (d := d7) rfl, fnR_ap]
  have lg : (Nat.gcd t b).log2 < 9000 := by rw [hg]; decide
  have f2 := f2_ k t b hs h0 lg
  rw [hg, Nat.div_one, Nat.div_one] at f2
  have ne : fNe (.tup [.int (t : Nat), .int (b : Nat)]) (.tup [.int (t : Nat), .int (b : Nat)]) = ret (.bl false) := fNe_self rfl
  simp [d7, b7, start0, f4_, ht, hb, h0, f2, ne]
end Lk47

set_option linter.all false
set_option maxRecDepth 100000
set_option maxHeartbeats 4000000
set_option exponentiation.threshold 1000
namespace Lk47
open PySem PySem.Spec PyProof.Rows L2 Mi
structure NmOk (w : Str) : Prop where
  l1 : 1 ≤ w.length
  l8 : w.length ≤ 8
  lo : ∀ c ∈ TL.tl w, 97 ≤ c ∧ c ≤ 122
theorem f0_true (k : Nat) (w : Str) (hs : HS) (h : NmOk w) : F (k + 1) 0 [.str w] hs = some (.ok (.bl true) ⟨[], hs⟩) := by
  rw [F_of (d := d0) rfl, fnR_ap]
  have lk : lenOk w.length = true := lenOk_le h.l8 (by decide)
  have q1 : (1 : Int) ≤ (w.length : Nat) := by have := h.l1; omega
  have q2 : ((w.length : Nat) : Int) ≤ 8 := by have := h.l8; omega
  obtain ⟨o', e⟩ := forL_each (j := 1) (b := dnBs ⟨csOf cs, F k⟩ (.cons (.iff (.cmp .NotIn (.v 1) (.gl 0)) (.cons (.rt (.bl false)) .nil) .nil) .nil)) (hs := hs) (sl := [some (.v (.str w)), none]) (ds := chrs w) (fun d hd => by
    rw [chrs_tl] at hd
    obtain ⟨x, hx, rfl⟩ := List.mem_map.mp hd
    obtain ⟨h1, h2⟩ := h.lo x hx
    have z := letters_in x (by omega)
    simp [cs0, z, h1, h2]) none
  simp [cs0] at e
  simp [d0, b0, start0, lk, q1, q2, cs0, e]
theorem f0_false (k : Nat) (w : Str) (hs : HS) {c : Nat} {r : List Nat} (e : TL.tl w = c :: r) (h1 : 48 ≤ c) (h2 : c ≤ 57) (lk : lenOk w.length = true) : F (k + 1) 0 [.str w] hs = some (.ok (.bl false) ⟨[], hs⟩) := by
  rw [F_of (d := d0) rfl, fnR_ap]
  have q1 : (1 : Int) ≤ (w.length : Nat) := by
    rw [TL.len_tl, e, List.length_cons]
    omega
  have ec : chrs w = .str ⟨#[c]⟩ :: r.map fun c => .str ⟨#[c]⟩ := by rw [chrs_tl, e]; rfl
  have z := letters_in c (by omega)
  have h3 : ¬ 97 ≤ c := by omega
  by_cases q2 : ((w.length : Nat) : Int) ≤ 8
  · simp [d0, b0, start0, lk, q1, q2, cs0, ec, forL_cons, z, h3]
  · simp [d0, b0, start0, lk, q1, q2, cs0]
/-! values -/
inductive Vl where
  | hand | start | word (w : Str) | of (p : Str) (t b : Nat) | num (t b : Nat) | part (t b : Nat) | times (t b : Nat)
def Vl.d : Vl → D
  | .hand => .tup [.str (Str.ofString "hand")]
  | .start => .tup [.str (Str.ofString "start")]
  | .word w => .tup [.str (Str.ofString "word"), .str w]
  | .of p t b => .tup [.str (Str.ofString "of"), .str p, .int (t : Nat), .int (b : Nat)]
  | .num t b => .tup [.str (Str.ofString "number"), .int (t : Nat), .int (b : Nat)]
  | .part t b => .tup [.str (Str.ofString "part"), .int (t : Nat), .int (b : Nat)]
  | .times t b => .tup [.str (Str.ofString "times"), .int (t : Nat), .int (b : Nat)]
def Vl.tx : Vl → Str
  | .hand => Str.ofString "hand"
  | .start => Str.ofString "start"
  | .word w => w
  | .of p t b => sh t b ++ Str.ofString " of " ++ p
  | .num t b => sh t b
  | .part t b => sh t b ++ Str.ofString " " ++ Str.ofString "part"
  | .times t b => sh t b ++ Str.ofString " " ++ Str.ofString "times"
def nums : List Str := [Str.ofString "size", Str.ofString "wide", Str.ofString "least", Str.ofString "most", Str.ofString "grow", Str.ofString "shrink", Str.ofString "gap", Str.ofString "pad", Str.ofString "tall"]
def Big (n t b : Nat) : Prop := t < 10 ^ n ∧ b < 10 ^ n ∧ 0 < b
def Vl.ok (n : Nat) : Vl → Prop
  | .hand => True
  | .start => True
  | .word w => NmOk w ∧ w ≠ Str.ofString "hand" ∧ w ≠ Str.ofString "start"
  | .of p t b => p ∈ nums ∧ Big n t b
  | .num t b => Big n t b
  | .part t b => Big n t b
  | .times t b => Big n t b
theorem sh_lenB {t b : Nat} (ht : t < 10 ^ 300) (hb : b < 10 ^ 300) : (sh t b).length ≤ 601 := by
  have h1 : (nt t).length ≤ 300 := by rw [len_nt]; exact TL.numL_len (by decide) ht
  have h2 : (nt b).length ≤ 300 := by rw [len_nt]; exact TL.numL_len (by decide) hb
  unfold sh
  split
  · omega
  · rw [len_add, len_add, slash_len]
    omega
theorem ne_hs {w x : Str} (h : decide (w = x) = false) : w ≠ x := of_decide_eq_false h
theorem f8_ (k : Nat) (v : Vl) (hs : HS) (h : v.ok 300) : F (k + 2) 8 [v.d] hs = some (.ok (.str v.tx) ⟨[], hs⟩) := by
  rw [F_of (d := d8) rfl, fnR_ap]
  have ne : ∀ x y : String, (Str.ofString x = Str.ofString y) = (Str.ofString x = Str.ofString y) := fun _ _ => rfl
  have n1 : ¬ Str.ofString "start" = Str.ofString "hand" := by decide +kernel
  have n2 : ¬ Str.ofString "word" = Str.ofString "hand" := by decide +kernel
  have n3 : ¬ Str.ofString "word" = Str.ofString "start" := by decide +kernel
  have n4 : ¬ Str.ofString "of" = Str.ofString "hand" := by decide +kernel
  have n5 : ¬ Str.ofString "of" = Str.ofString "start" := by decide +kernel
  have n6 : ¬ Str.ofString "of" = Str.ofString "word" := by decide +kernel
  have n7 : ¬ Str.ofString "number" = Str.ofString "hand" := by decide +kernel
  have n8 : ¬ Str.ofString "number" = Str.ofString "start" := by decide +kernel
  have n9 : ¬ Str.ofString "number" = Str.ofString "word" := by decide +kernel
  have n10 : ¬ Str.ofString "number" = Str.ofString "of" := by decide +kernel
  have n11 : ¬ Str.ofString "part" = Str.ofString "hand" := by decide +kernel
  have n12 : ¬ Str.ofString "part" = Str.ofString "start" := by decide +kernel
  have n13 : ¬ Str.ofString "part" = Str.ofString "word" := by decide +kernel
  have n14 : ¬ Str.ofString "part" = Str.ofString "of" := by decide +kernel
  have n15 : ¬ Str.ofString "part" = Str.ofString "number" := by decide +kernel
  have n16 : ¬ Str.ofString "times" = Str.ofString "hand" := by decide +kernel
  have n17 : ¬ Str.ofString "times" = Str.ofString "start" := by decide +kernel
  have n18 : ¬ Str.ofString "times" = Str.ofString "word" := by decide +kernel
  have n19 : ¬ Str.ofString "times" = Str.ofString "of" := by decide +kernel
  have n20 : ¬ Str.ofString "times" = Str.ofString "number" := by decide +kernel
  have l1 : (Str.ofString " of ").length = 4 := by decide +kernel
  have l2 : (Str.ofString " ").length = 1 := by decide +kernel
  have l3 : (Str.ofString "part").length = 4 := by decide +kernel
  have l4 : (Str.ofString "times").length = 5 := by decide +kernel
  cases v with
  | hand => simp [Vl.d, Vl.tx, d8, b8, start0]
  | start => simp [Vl.d, Vl.tx, d8, b8, start0, n1]
  | word w => simp [Vl.d, Vl.tx, d8, b8, start0, n2, n3]
  | of p t b =>
    obtain ⟨hp, ht, hb, h0⟩ := h
    have hl := sh_lenB ht hb
    have hpl : p.length ≤ 10 := by
      have : ∀ q ∈ nums, q.length ≤ 10 := by decide +kernel
      exact this p hp
    have k1 : lenOk ((sh t b).length + 4) = true := lenOk_le (m := 1000) (by omega) (by decide)
    have k2 : lenOk ((sh t b).length + 4 + p.length) = true := lenOk_le (m := 1000) (by omega) (by decide)
    simp [Vl.d, Vl.tx, d8, b8, start0, n4, n5, n6, f5_, ht, hb, l1, len_add, k1, k2]
  | num t b =>
    obtain ⟨ht, hb, h0⟩ := h
    simp [Vl.d, Vl.tx, d8, b8, start0, n7, n8, n9, n10, f5_, ht, hb]
  | part t b =>
    obtain ⟨ht, hb, h0⟩ := h
    have hl := sh_lenB ht hb
    have k1 : lenOk ((sh t b).length + 1) = true := lenOk_le (m := 1000) (by omega) (by decide)
    have k2 : lenOk ((sh t b).length + 1 + 4) = true := lenOk_le (m := 1000) (by omega) (by decide)
    simp [Vl.d, Vl.tx, d8, b8, start0, n11, n12, n13, n14, n15, f5_, ht, hb, l2, l3, len_add, k1, k2]
  | times t b =>
    obtain ⟨ht, hb, h0⟩ := h
    have hl := sh_lenB ht hb
    have k1 : lenOk ((sh t b).length + 1) = true := lenOk_le (m := 1000) (by omega) (by decide)
    have k2 : lenOk ((sh t b).length + 1 + 5) = true := lenOk_le (m := 1000) (by omega) (by decide)
    simp [Vl.d, Vl.tx, d8, b8, start0, n16, n17, n18, n19, n20, f5_, ht, hb, l2, l4, len_add, k1, k2]
end Lk47

set_option linter.all false
set_option maxRecDepth 100000
set_option maxHeartbeats 4000000
set_option exponentiation.threshold 1000
namespace Lk47
open PySem PySem.Spec PyProof.Rows L2 Mi
theorem nt_head (n : Nat) : ∃ c r, TL.tl (nt n) = c :: r ∧ 48 ≤ c ∧ c ≤ 57 := by
  rw [tl_nt]
  cases h : TL.numL n with
  | nil => exact (TL.numL_ne n h).elim
  | cons c r =>
    have z := TL.numL_digits n c (by rw [h]; exact List.mem_cons_self ..)
    exact ⟨c, r, rfl, z.1, z.2⟩
theorem sh_head (t b : Nat) (z : Str) : ∃ c r, TL.tl (sh t b ++ z) = c :: r ∧ 48 ≤ c ∧ c ≤ 57 := by
  obtain ⟨c, r, e, h1, h2⟩ := nt_head t
  rw [TL.tl_append]
  unfold sh
  split
  · exact ⟨c, r ++ TL.tl z, by rw [e]; rfl, h1, h2⟩
  · rw [TL.tl_append, TL.tl_append, e]
    exact ⟨c, _, rfl, h1, h2⟩
theorem sh_free {t b s : Nat} (h : s < 47 ∨ 57 < s) : s ∉ TL.tl (sh t b) := by
  unfold sh
  split
  · exact nt_free t (by omega)
  · rw [TL.tl_append, TL.tl_append, slash_tl]
    intro hm
    simp only [List.mem_append, List.mem_singleton] at hm
    rcases hm with (hm | hm) | hm
    · exact nt_free t (by omega) hm
    · omega
    · exact nt_free b (by omega) hm
theorem blank_tl : TL.tl (Str.ofString " ") = 32 :: [] := by decide +kernel
theorem blank_k : (Str.ofString " ").cps.all (· < 256) = true := by decide +kernel
theorem split_of {x : Str} {parts : List Str} (hne : parts ≠ []) (hp : ∀ p ∈ parts, 32 ∉ TL.tl p) (e : TL.tl x = TL.joinL [32] (parts.map TL.tl)) : Txt.split x (Str.ofString " ") = parts := by
  have ex : x = Txt.join (Str.ofString " ") parts := by
    apply TL.ext_tl
    rw [TL.join_eq, TL.tl_join, blank_tl]
    exact e
  rw [ex]
  exact TL.split_join blank_tl blank_k hne hp
theorem ne_of_tl {x : Str} {c d : Nat} {r q : List Nat} {y : Str} (e : TL.tl x = c :: r) (ey : TL.tl y = d :: q) (h : c ≠ d) : ¬ x = y := by
  intro z
  rw [z, ey] at e
  exact h (List.cons.inj e).1.symm
theorem hand_tl : TL.tl (Str.ofString "hand") = 104 :: [97, 110, 100] := by decide +kernel
theorem start_tl : TL.tl (Str.ofString "start") = 115 :: [116, 97, 114, 116] := by decide +kernel
theorem f9_ (k : Nat) (v : Vl) (hs : HS) (h : v.ok 30) : F (k + 3) 9 [.str v.tx] hs = some (.ok v.d ⟨[], hs⟩) := by
  rw [F_of (d := d9) rfl, fnR_ap]
  have n1 : ¬ Str.ofString "start" = Str.ofString "hand" := by decide +kernel
  have bl : (Str.ofString " ").length = 1 := by decide +kernel
  cases v with
  | hand => simp [Vl.d, Vl.tx, d9, b9, start0]
  | start => simp [Vl.d, Vl.tx, d9, b9, start0, n1]
  | word w =>
    obtain ⟨h1, h2, h3⟩ := h
    simp [Vl.d, Vl.tx, d9, b9, start0, h2, h3, f0_true, h1]
  | num t b =>
    obtain ⟨ht, hb, h0⟩ := h
    have hl := sh_len ht hb
    obtain ⟨c, r, e, c1, c2⟩ := sh_head t b Str.empty
    have e' : TL.tl (sh t b) = c :: r := by
      rw [TL.tl_append] at e
      have z : TL.tl Str.empty = [] := rfl
      rw [z, List.append_nil] at e
      exact e
    have m1 := ne_of_tl e' hand_tl (by omega)
    have m2 := ne_of_tl e' start_tl (by omega)
    have lk : lenOk (sh t b).length = true := lenOk_le hl (by decide)
    have lk2 : lenOk ((sh t b).length + 2) = true := lenOk_le (m := 100) (by omega) (by decide)
    have nm := f0_false (k + 1) (sh t b) hs e' c1 c2 lk
    have sp : Txt.split (sh t b) (Str.ofString " ") = [sh t b] := split_of (by simp) (by
      intro p hp
      rw [List.mem_singleton.mp hp]
      exact sh_free (by omega)) (by simp [TL.joinL])
    simp [Vl.d, Vl.tx, d9, b9, start0, m1, m2, nm, lk2, bl, sp, f4_, ht, hb, h0]
  | part t b =>
    obtain ⟨ht, hb, h0⟩ := h
    have hl := sh_len ht hb
    have l2 : (Str.ofString " ").length = 1 := by decide +kernel
    have l3 : (Str.ofString "part").length = 4 := by decide +kernel
    obtain ⟨c, r, e, c1, c2⟩ := sh_head t b (Str.ofString " " ++ Str.ofString "part")
    have ea : sh t b ++ Str.ofString " " ++ Str.ofString "part" = sh t b ++ (Str.ofString " " ++ Str.ofString "part") := by
      apply TL.ext_tl
      simp only [TL.tl_append, List.append_assoc]
    have m1 := ne_of_tl e hand_tl (by omega)
    have m2 := ne_of_tl e start_tl (by omega)
    have lt : (sh t b ++ (Str.ofString " " ++ Str.ofString "part")).length ≤ 100 := by rw [len_add, len_add, l2, l3]; omega
    have lk : lenOk (sh t b ++ (Str.ofString " " ++ Str.ofString "part")).length = true := lenOk_le lt (by decide)
    have lk2 : lenOk ((sh t b ++ (Str.ofString " " ++ Str.ofString "part")).length + 2) = true := lenOk_le (m := 102) (by omega) (by decide)
    have nm := f0_false (k + 1) _ hs e c1 c2 lk
    have sp : Txt.split (sh t b ++ (Str.ofString " " ++ Str.ofString "part")) (Str.ofString " ") = [sh t b, Str.ofString "part"] := split_of (by simp) (by
      intro p hp
      simp only [List.mem_cons, List.not_mem_nil, or_false] at hp
      rcases hp with rfl | rfl
      · exact sh_free (by omega)
      · decide +kernel) (by simp [TL.joinL, TL.tl_append, blank_tl])
    have i1 : inD (.str (Str.ofString "part")) [.str (Str.ofString "part"), .str (Str.ofString "times")] = true := by decide +kernel
    simp [Vl.d, Vl.tx, d9, b9, start0, ea, m1, m2, nm, lk2, bl, sp, f4_, ht, hb, h0, i1, D.flat]
  | times t b =>
    obtain ⟨ht, hb, h0⟩ := h
    have hl := sh_len ht hb
    have l2 : (Str.ofString " ").length = 1 := by decide +kernel
    have l3 : (Str.ofString "times").length = 5 := by decide +kernel
    obtain ⟨c, r, e, c1, c2⟩ := sh_head t b (Str.ofString " " ++ Str.ofString "times")
    have ea : sh t b ++ Str.ofString " " ++ Str.ofString "times" = sh t b ++ (Str.ofString " " ++ Str.ofString "times") := by
      apply TL.ext_tl
      simp only [TL.tl_append, List.append_assoc]
    have m1 := ne_of_tl e hand_tl (by omega)
    have m2 := ne_of_tl e start_tl (by omega)
    have lt : (sh t b ++ (Str.ofString " " ++ Str.ofString "times")).length ≤ 100 := by rw [len_add, len_add, l2, l3]; omega
    have lk : lenOk (sh t b ++ (Str.ofString " " ++ Str.ofString "times")).length = true := lenOk_le lt (by decide)
    have lk2 : lenOk ((sh t b ++ (Str.ofString " " ++ Str.ofString "times")).length + 2) = true := lenOk_le (m := 102) (by omega) (by decide)
    have nm := f0_false (k + 1) _ hs e c1 c2 lk
    have sp : Txt.split (sh t b ++ (Str.ofString " " ++ Str.ofString "times")) (Str.ofString " ") = [sh t b, Str.ofString "times"] := split_of (by simp) (by
      intro p hp
      simp only [List.mem_cons, List.not_mem_nil, or_false] at hp
      rcases hp with rfl | rfl
      · exact sh_free (by omega)
      · decide +kernel) (by simp [TL.joinL, TL.tl_append, blank_tl])
    have i1 : inD (.str (Str.ofString "times")) [.str (Str.ofString "part"), .str (Str.ofString "times")] = true := by decide +kernel
    simp [Vl.d, Vl.tx, d9, b9, start0, ea, m1, m2, nm, lk2, bl, sp, f4_, ht, hb, h0, i1, D.flat]
  | of p t b =>
    obtain ⟨hp, ht, hb, h0⟩ := h
    have hl := sh_len ht hb
    have hpl : p.length ≤ 10 := by
      have : ∀ q ∈ nums, q.length ≤ 10 := by decide +kernel
      exact this p hp
    have hpb : 32 ∉ TL.tl p := by
      have : ∀ q ∈ nums, 32 ∉ TL.tl q := by decide +kernel
      exact this p hp
    have l2 : (Str.ofString " of ").length = 4 := by decide +kernel
    have oft : TL.tl (Str.ofString " of ") = [32, 111, 102, 32] := by decide +kernel
    have oft2 : TL.tl (Str.ofString "of") = [111, 102] := by decide +kernel
    obtain ⟨c, r, e, c1, c2⟩ := sh_head t b (Str.ofString " of " ++ p)
    have ea : sh t b ++ Str.ofString " of " ++ p = sh t b ++ (Str.ofString " of " ++ p) := by
      apply TL.ext_tl
      simp only [TL.tl_append, List.append_assoc]
    have m1 := ne_of_tl e hand_tl (by omega)
    have m2 := ne_of_tl e start_tl (by omega)
    have lt : (sh t b ++ (Str.ofString " of " ++ p)).length ≤ 100 := by rw [len_add, len_add, l2]; omega
    have lk : lenOk (sh t b ++ (Str.ofString " of " ++ p)).length = true := lenOk_le lt (by decide)
    have lk2 : lenOk ((sh t b ++ (Str.ofString " of " ++ p)).length + 2) = true := lenOk_le (m := 102) (by omega) (by decide)
    have nm := f0_false (k + 1) _ hs e c1 c2 lk
    have sp : Txt.split (sh t b ++ (Str.ofString " of " ++ p)) (Str.ofString " ") = [sh t b, Str.ofString "of", p] := split_of (by simp) (by
      intro q hq
      simp only [List.mem_cons, List.not_mem_nil, or_false] at hq
      rcases hq with rfl | rfl | rfl
      · exact sh_free (by omega)
      · decide +kernel
      · exact hpb) (by simp [TL.joinL, TL.tl_append, oft, oft2])
    have cs1 : csOf cs 1 = .tup (nums.map D.str) := rfl
    have i1 : inD (.str p) (nums.map D.str) = true := by
      have : ∀ q ∈ nums, inD (.str q) (nums.map D.str) = true := by decide +kernel
      exact this p hp
    have i2 : (nums.map D.str).all D.flat = true := by decide +kernel
    have i3 : D.flat (.str p) = true := rfl
    generalize nums.map D.str = nd at cs1 i1 i2
    simp [Vl.d, Vl.tx, d9, b9, start0, ea, m1, m2, nm, lk2, bl, sp, f4_, ht, hb, h0, cs1, i1, i2, i3]
end Lk47

set_option linter.all false
set_option maxRecDepth 100000
set_option maxHeartbeats 4000000
set_option exponentiation.threshold 1000
namespace Lk47
open PySem PySem.Spec PyProof.Rows L2 Mi
abbrev scr (ns : List Int) : D := .lst (ns.map D.int)
theorem f10_ (k : Nat) (ns : List Int) (j : Nat) (hs : HS) (hn : ns.length ≤ 63) : F (k + 1) 10 [scr ns, .int (j : Nat)] hs = some (.ok (.int (ns.getD j 0)) ⟨[], hs⟩) := by
  rw [F_of (d := d10) rfl, fnR_ap]
  by_cases h : j < ns.length
  · have e : atI (ns.map D.int) (j : Int) = some (.int (ns.getD j 0)) := by
      rw [atI_nat _ _ (by simpa using h)]
      simp [h]
    simp [d10, b10, start0, h, e]
  · simp [d10, b10, start0, h]
/-- a mixing of a number -/
def mx (c : Int) (w : Nat) : Nat := (((c * 48271 + (w : Int) * 7919).fmod 2147483647) * (16807 + 2 * (w : Int))).fmod 1000003 |>.toNat
theorem fmod_pos (a b : Int) (h : 0 < b) : 0 ≤ a.fmod b ∧ a.fmod b < b := ⟨Int.fmod_nonneg_of_pos a h, Int.fmod_lt_of_pos a h⟩
theorem mx_lt (c : Int) (w : Nat) : mx c w < 1000003 := by
  have h := fmod_pos (((c * 48271 + (w : Int) * 7919).fmod 2147483647) * (16807 + 2 * (w : Int))) 1000003 (by decide)
  unfold mx
  omega
theorem f11_ (k : Nat) (c : Int) (w : Nat) (hs : HS) (hw : w < 100000) : F (k + 1) 11 [.int c, .int (w : Nat)] hs = some (.ok (.int (mx c w : Nat)) ⟨[], hs⟩) := by
  rw [F_of (d := d11) rfl, fnR_ap]
  have m1 : mulOk c 48271 = true := mul_smallR (by decide) (by decide)
  have m2 : mulOk (w : Int) 7919 = true := mul_smallR (by decide) (by decide)
  have m3 : mulOk 2 (w : Int) = true := mul_small (by decide) (by decide)
  have hf := fmod_pos (c * 48271 + (w : Int) * 7919) 2147483647 (by decide)
  have m4 : mulOk ((c * 48271 + (w : Int) * 7919).fmod 2147483647) (16807 + 2 * (w : Int)) = true := mul_small (by omega) (by omega)
  have h := fmod_pos (((c * 48271 + (w : Int) * 7919).fmod 2147483647) * (16807 + 2 * (w : Int))) 1000003 (by decide)
  have e : ((mx c w : Nat) : Int) = (((c * 48271 + (w : Int) * 7919).fmod 2147483647) * (16807 + 2 * (w : Int))).fmod 1000003 := by
    unfold mx
    omega
  rw [e]
  simp [d11, b11, start0, m1, m2, m3, m4]
theorem f13_ (k : Nat) (i : Int) (hs : HS) : F (k + 1) 13 [.int i] hs = some (.ok (.bl true) ⟨[], hs⟩) := by
  rw [F_of (d := d13) rfl, fnR_ap]
  simp [d13, b13, start0]
def props : List Str := [Str.ofString "ink"] ++ nums ++ [Str.ofString "flow", Str.ofString "spread", Str.ofString "stand"]
theorem f14_ (k : Nat) (hs : HS) : F (k + 1) 14 [] hs = some (.ok (.lst (props.map D.str)) ⟨[], hs⟩) := by
  rw [F_of (d := d14) rfl, fnR_ap]
  simp [d14, b14, start0, props, nums]
theorem f15_ (k : Nat) (t b : Nat) (hs : HS) (ht : t < 10 ^ 300) (hb : b < 10 ^ 300) : F (k + 1) 15 [.int (t : Nat), .int (b : Nat)] hs = some (.ok (.str (sh t b)) ⟨[], hs⟩) := by
  rw [F_of (d := d15) rfl, fnR_ap]
  have l1 : t.log2 < 1920 := log2_of (Nat.lt_of_lt_of_le ht (by decide)) (by decide)
  have l2 : b.log2 < 1920 := log2_of (Nat.lt_of_lt_of_le hb (by decide)) (by decide)
  have n1 : (nt t).length ≤ 300 := by rw [len_nt]; exact TL.numL_len (by decide) ht
  have n2 : (nt b).length ≤ 300 := by rw [len_nt]; exact TL.numL_len (by decide) hb
  have ee : ∀ x : Str, Str.empty ++ x = x := fun x => by
    apply TL.ext_tl
    rw [TL.tl_append]
    rfl
  unfold sh
  by_cases h : b = 1
  · subst h
    simp [d15, b15, start0, oFmt_n, l1]
  · have hb' : ¬ ((b : Nat) : Int) = 1 := by omega
    have k0 : lenOk (nt t).length = true := lenOk_le (m := 1000) (by omega) (by decide)
    have k1 : lenOk ((nt t).length + 1) = true := lenOk_le (m := 1000) (by omega) (by decide)
    have k2 : lenOk ((nt t).length + 1 + (nt b).length) = true := lenOk_le (m := 1000) (by omega) (by decide)
    simp [d15, b15, start0, oFmt_n, l1, l2, h, hb', slash_len, len_add, k0, k1, k2, ee]
theorem f18_ (k : Nat) (a b : Nat) (hs : HS) : F (k + 1) 18 [.int (a : Nat), .int (b : Nat)] hs = some (.ok (.int (Nat.gcd a b : Nat)) ⟨[], hs⟩) := by
  rw [F_of (d := d18) rfl, fnR_ap]
  have e := gcd_par (de := ⟨csOf cs, F k⟩) (hs := hs) b a
  simp [d18, b18, start0] at e ⊢
  rw [e]
  simp
theorem f19_ (k : Nat) (a b : Nat) (hs : HS) (hb : 0 < b) (h1 : (Nat.gcd a b).log2 < 9000) : F (k + 2) 19 [.int (a : Nat), .int (b : Nat)] hs = some (.ok (.tup [.int (a / Nat.gcd a b : Nat), .int (b / Nat.gcd a b : Nat)]) ⟨[], hs⟩) := by
  rw [F_of (d := d19) rfl, fnR_ap]
  have hg : 0 < Nat.gcd a b := Nat.gcd_pos_of_pos_right _ hb
  have e1 : (a : Int).fdiv ((Nat.gcd a b : Nat) : Int) = ((a / Nat.gcd a b : Nat) : Int) := by
    rw [Int.fdiv_eq_ediv_of_nonneg _ (by omega)]
    rfl
  have e2 : (b : Int).fdiv ((Nat.gcd a b : Nat) : Int) = ((b / Nat.gcd a b : Nat) : Int) := by
    rw [Int.fdiv_eq_ediv_of_nonneg _ (by omega)]
    rfl
  have hd : divOk ((Nat.gcd a b : Nat) : Int) = true := by
    unfold divOk
    simp [h1]
    omega
  simp [d19, b19, start0, f18_, e1, e2, hd]
end Lk47

set_option linter.all false
set_option maxRecDepth 100000
set_option maxHeartbeats 4000000
set_option exponentiation.threshold 2000
namespace Lk47
open PySem PySem.Spec PyProof.Rows L2 Mi
def nwL (c : Int) (w : Nat) : List Nat := (List.range (1 + mx c (w + 3) % 8)).map fun k => 97 + mx c (w + 5 * k) % 26
def nw (c : Int) (w : Nat) : Str := ⟨(nwL c w).toArray⟩
theorem nw_ok (c : Int) (w : Nat) : NmOk (nw c w) := by
  have hl : (nw c w).length = 1 + mx c (w + 3) % 8 := by
    show (nwL c w).toArray.size = _
    simp [nwL]
  refine ⟨by omega, by omega, fun x hx => ?_⟩
  have hx' : x ∈ nwL c w := hx
  obtain ⟨k, _, e⟩ := List.mem_map.mp hx'
  omega
theorem let_at : ∀ i < 26, (Str.ofString "abcdefghijklmnopqrstuvwxyz").cps.toList[i]? = some (97 + i) := by decide +kernel
theorem let_len : (Str.ofString "abcdefghijklmnopqrstuvwxyz").cps.toList.length = 26 := by decide +kernel
theorem let_len2 : (Str.ofString "abcdefghijklmnopqrstuvwxyz").length = 26 := by decide +kernel
theorem fmod_nat (a b : Nat) : ((a : Int)).fmod (b : Int) = ((a % b : Nat) : Int) := by
  rw [Int.fmod_eq_emod_of_nonneg _ (by omega)]
  rfl
theorem fdiv_nat (a b : Nat) : ((a : Int)).fdiv (b : Int) = ((a / b : Nat) : Int) := by
  rw [Int.fdiv_eq_ediv_of_nonneg _ (by omega)]
  rfl
theorem f11i (k : Nat) (c i : Int) (w : Nat) (hs : HS) (hw : w < 100000) (e : i = (w : Nat)) : F (k + 1) 11 [.int c, .int i] hs = some (.ok (.int (mx c w : Nat)) ⟨[], hs⟩) := by
  subst e
  exact f11_ k c w hs hw
@[simp] theorem fmod8 (a : Int) : a.fmod 8 = a % 8 := Int.fmod_eq_emod_of_nonneg a (by decide)
@[simp] theorem fmod26 (a : Int) : a.fmod 26 = a % 26 := Int.fmod_eq_emod_of_nonneg a (by decide)
def yl (c : Int) (w : Nat) : D → D := fun d => match d with
  | .int i => .str ⟨#[97 + mx c (w + 5 * i.toNat) % 26]⟩
  | _ => .non
theorem f12_ (k : Nat) (c : Int) (w : Nat) (hs : HS) (hw : w < 90000) : F (k + 2) 12 [.int c, .int (w : Nat)] hs = some (.ok (.str (nw c w)) ⟨[], hs⟩) := by
  rw [F_of (d := d12) rfl, fnR_ap]
  have a1 := f11i k c ((w : Int) + 3) (w + 3) hs (by omega) (by omega)
  have er : rngO [D.int (1 + ((mx c (w + 3) : Nat) : Int) % 8)] = some (rngL 0 (1 + mx c (w + 3) % 8)) := by
    have sz : smallI (1 + ((mx c (w + 3) : Nat) : Int) % 8) = true := by
      unfold smallI
      simp
      omega
    have tn : (1 + ((mx c (w + 3) : Nat) : Int) % 8).toNat = 1 + mx c (w + 3) % 8 := by omega
    simp only [rngO, sz, if_true, tn]
  have lk : lenOk (Str.ofString "abcdefghijklmnopqrstuvwxyz").length = true := by rw [let_len2]; rfl
  have lat : ∀ i : Nat, atI (Str.ofString "abcdefghijklmnopqrstuvwxyz").cps.toList ((i : Int) % 26) = some (97 + i % 26) := fun i => by
    have e : (i : Int) % 26 = ((i % 26 : Nat) : Int) := by omega
    rw [e, atI_nat _ _ (by rw [let_len]; omega)]
    exact let_at _ (by omega)
  generalize hZ : Str.ofString "abcdefghijklmnopqrstuvwxyz" = Z at lk lat
  have el := lcL_each (j := 4) (e := dnE ⟨csOf cs, F (k + 1)⟩ (.idx (.v 2) (.op .Mod (.call 11 2 (.cons (.v 0) (.cons (.op .Add (.v 1) (.op .Mult (.int 5) (.v 4))) .nil))) (.int 26)))) (hs := hs)
    (sl := [some (.v (.int c)), some (.v (.int (w : Nat))), some (.v (.str Z)), some (.v (.int (1 + ((mx c (w + 3) : Nat) : Int) % 8))), none])
    (y := yl c w) rfl (ds := rngL 0 (1 + mx c (w + 3) % 8)) (acc := []) (fun d hd => by
      unfold rngL at hd
      obtain ⟨i, hi, rfl⟩ := List.mem_map.mp hd
      have hi' := List.mem_range.mp hi
      have m5 : mulOk 5 (i : Int) = true := mul_small (by decide) (by decide)
      have a2 := f11i k c ((w : Int) + 5 * (i : Int)) (w + 5 * i) hs (by omega) (by omega)
      have l2 := lat (mx c (w + 5 * i))
      have ey : yl c w (.int (i : Int)) = .str ⟨#[97 + mx c (w + 5 * i) % 26]⟩ := by
        show D.str ⟨#[97 + mx c (w + 5 * ((i : Int)).toNat) % 26]⟩ = _
        rw [Int.toNat_natCast]
      simp [m5, a2, lk, l2, ey]) (by simp [rngL]; omega)
  have ej : (rngL 0 (1 + mx c (w + 3) % 8)).map (yl c w) = (nwL c w).map fun x => D.str ⟨#[x]⟩ := by
    unfold rngL nwL
    rw [List.map_map, List.map_map]
    apply List.map_congr_left
    intro i _
    show yl c w (.int (0 + (i : Int))) = _
    show D.str ⟨#[97 + mx c (w + 5 * (0 + (i : Int)).toNat) % 26]⟩ = _
    rw [show (0 + (i : Int)).toNat = i by omega]
    rfl
  rw [ej] at el
  have oj : oJoin hs (Str.ofString "") (.lst ((nwL c w).map fun x => D.str ⟨#[x]⟩)) = some (.str (nw c w)) := by
    show ((some ((nwL c w).map fun x => D.str ⟨#[x]⟩)).bind fun ds => (strsOf ds).bind fun ys => if joinOk (Str.ofString "") ys then some (D.str (Txt.join (Str.ofString "") ys)) else none) = _
    rw [Option.bind_some, strs_map (fun x : Nat => (⟨#[x]⟩ : Str)) (nwL c w), Option.bind_some, join_signs]
    have jo : joinOk (Str.ofString "") ((nwL c w).map fun c => (⟨#[c]⟩ : Str)) = true := by
      unfold joinOk
      apply decide_eq_true
      have hz : (Str.ofString "").length = 0 := by decide +kernel
      have hs1 : ∀ l : List Nat, ((l.map fun c => (⟨#[c]⟩ : Str)).map (·.length)).sum = l.length := fun l => by
        induction l with
        | nil => rfl
        | cons a l ih =>
          rw [List.map_cons, List.map_cons, List.sum_cons, ih, List.length_cons]
          show 1 + l.length = l.length + 1
          omega
      rw [hs1, hz]
      have : (nwL c w).length ≤ 8 := by
        simp [nwL]
        omega
      omega
    rw [if_pos jo]
    rfl
  simp at el
  simp [d12, b12, start0, a1, er, hZ, el, oj]
end Lk47

set_option linter.all false
set_option maxRecDepth 100000
set_option maxHeartbeats 4000000
set_option exponentiation.threshold 2000
namespace Lk47
open PySem PySem.Spec PyProof.Rows L2 Mi
theorem f16_ (k : Nat) (v : Vl) (hs : HS) (h : v.ok 300) : F (k + 2) 16 [v.d] hs = some (.ok (.str v.tx) ⟨[], hs⟩) := by
  rw [F_of (d := d16) rfl, fnR_ap]
  have l1 : (Str.ofString " of ").length = 4 := by decide +kernel
  have l2 : (Str.ofString " ").length = 1 := by decide +kernel
  have l3 : (Str.ofString "part").length = 4 := by decide +kernel
  have l4 : (Str.ofString "times").length = 5 := by decide +kernel
  have hin : ∀ x : Str, inD (.str x) [.str (Str.ofString "hand"), .str (Str.ofString "start")] = (decide (Str.ofString "hand" = x) || decide (Str.ofString "start" = x)) := fun x => by
    show ((Str.ofString "hand" == x) || ((Str.ofString "start" == x) || false)) = _
    rw [Bool.or_false]
    rfl
  cases v with
  | hand => simp [Vl.d, Vl.tx, d16, b16, start0, hin, D.flat]
  | start => simp [Vl.d, Vl.tx, d16, b16, start0, hin, D.flat]
  | word w => simp [Vl.d, Vl.tx, d16, b16, start0, hin, D.flat]
  | of p t b =>
    obtain ⟨hp, ht, hb, h0⟩ := h
    have hl := sh_lenB ht hb
    have hpl : p.length ≤ 10 := by
      have : ∀ q ∈ nums, q.length ≤ 10 := by decide +kernel
      exact this p hp
    have k1 : lenOk ((sh t b).length + 4) = true := lenOk_le (m := 1000) (by omega) (by decide)
    have k2 : lenOk ((sh t b).length + 4 + p.length) = true := lenOk_le (m := 1000) (by omega) (by decide)
    simp [Vl.d, Vl.tx, d16, b16, start0, hin, D.flat, f15_, ht, hb, l1, len_add, k1, k2]
  | num t b =>
    obtain ⟨ht, hb, h0⟩ := h
    simp [Vl.d, Vl.tx, d16, b16, start0, hin, D.flat, f15_, ht, hb]
  | part t b =>
    obtain ⟨ht, hb, h0⟩ := h
    have hl := sh_lenB ht hb
    have k1 : lenOk ((sh t b).length + 1) = true := lenOk_le (m := 1000) (by omega) (by decide)
    have k2 : lenOk ((sh t b).length + 1 + 4) = true := lenOk_le (m := 1000) (by omega) (by decide)
    simp [Vl.d, Vl.tx, d16, b16, start0, hin, D.flat, f15_, ht, hb, l2, l3, len_add, k1, k2]
  | times t b =>
    obtain ⟨ht, hb, h0⟩ := h
    have hl := sh_lenB ht hb
    have k1 : lenOk ((sh t b).length + 1) = true := lenOk_le (m := 1000) (by omega) (by decide)
    have k2 : lenOk ((sh t b).length + 1 + 5) = true := lenOk_le (m := 1000) (by omega) (by decide)
    simp [Vl.d, Vl.tx, d16, b16, start0, hin, D.flat, f15_, ht, hb, l2, l4, len_add, k1, k2]
/-! alike -/
theorem alike_loop (k : Nat) (ds : List D) (hs : HS) (h : ∀ d ∈ ds, (∃ i, d = .int i) ∨ ∃ x, d = .str x) (o : Option L) : ∃ o', forL (gSlot 2) (dnBs ⟨csOf cs, F (k + 1)⟩ (.cons (.iff (.and (.cons (.e (.isi "str" (.idx (.v 1) (.v 2)))) (.cons (.not (.e (.isi "str" (.idx (.v 0) (.v 2))))) .nil))) (.cons (.rt (.bl false)) .nil) .nil) (.cons (.iff (.and (.cons (.not (.e (.isi "str" (.idx (.v 1) (.v 2))))) (.cons (.not (.e (.call 13 1 (.cons (.idx (.v 0) (.v 2)) .nil)))) .nil))) (.cons (.rt (.bl false)) .nil) .nil) .nil)))
    (rngL 0 ds.length) ⟨[some (.v (.tup ds)), some (.v (.tup ds)), none], hs⟩ = some (.ok .nx ⟨[some (.v (.tup ds)), some (.v (.tup ds)), o'], hs⟩) := by
  obtain ⟨o', e⟩ := forL_each (j := 2) (sl := [some (.v (.tup ds)), some (.v (.tup ds)), none]) (hs := hs) (ds := rngL 0 ds.length) (b := dnBs ⟨csOf cs, F (k + 1)⟩ (.cons (.iff (.and (.cons (.e (.isi "str" (.idx (.v 1) (.v 2)))) (.cons (.not (.e (.isi "str" (.idx (.v 0) (.v 2))))) .nil))) (.cons (.rt (.bl false)) .nil) .nil) (.cons (.iff (.and (.cons (.not (.e (.isi "str" (.idx (.v 1) (.v 2))))) (.cons (.not (.e (.call 13 1 (.cons (.idx (.v 0) (.v 2)) .nil)))) .nil))) (.cons (.rt (.bl false)) .nil) .nil) .nil))) (fun d hd => by
    unfold rngL at hd
    obtain ⟨i, hi, rfl⟩ := List.mem_map.mp hd
    have hi' := List.mem_range.mp hi
    have ea : atI ds (i : Int) = some (ds[i]) := by
      rw [atI_nat _ _ hi']
      exact List.getElem?_eq_getElem hi'
    rcases h ds[i] (List.getElem_mem hi') with ⟨j, ej⟩ | ⟨x, ex⟩
    · rw [ej] at ea
      simp [ea, f13_]
    · rw [ex] at ea
      simp [ea]) none
  simp at e
  exact ⟨o', by simpa using e⟩
theorem f20_ (k : Nat) (ds : List D) (hs : HS) (h : ∀ d ∈ ds, (∃ i, d = .int i) ∨ ∃ x, d = .str x) (hl : ds.length ≤ 10) (hok : okD (.tup ds) = true) : F (k + 2) 20 [.tup ds, .tup ds] hs = some (.ok (.bl true) ⟨[], hs⟩) := by
  rw [F_of (d := d20) rfl, fnR_ap]
  obtain ⟨o', e⟩ := alike_loop k ds hs h none
  have er : rngO [D.int (ds.length : Int)] = some (rngL 0 ds.length) := by
    have sz : smallI (ds.length : Int) = true := by
      unfold smallI
      simp
      omega
    have tn : ((ds.length : Nat) : Int).toNat = ds.length := by omega
    simp only [rngO, sz, if_true, tn]
  have eq := fEq_self hok
  simp at e
  simp [d20, b20, start0, er, e, eq]
theorem strOk_nm {w : Str} (h : NmOk w) : PyData.strOk w = true := by
  unfold PyData.strOk
  rw [Array.all_eq_true]
  intro i hi
  have hm : w.cps[i] ∈ TL.tl w := by
    show w.cps[i] ∈ w.cps.toList
    exact Array.getElem_mem_toList hi
  have z := h.lo _ hm
  simp
  omega
theorem alike_v {n : Nat} (v : Vl) (h : v.ok n) : ∃ ds, v.d = .tup ds ∧ (∀ d ∈ ds, (∃ i, d = .int i) ∨ ∃ x, d = .str x) ∧ ds.length ≤ 10 ∧ okD (.tup ds) = true := by
  have o1 : PyData.strOk (Str.ofString "hand") = true := by decide +kernel
  have o2 : PyData.strOk (Str.ofString "start") = true := by decide +kernel
  have o3 : PyData.strOk (Str.ofString "word") = true := by decide +kernel
  have o4 : PyData.strOk (Str.ofString "of") = true := by decide +kernel
  have o5 : PyData.strOk (Str.ofString "number") = true := by decide +kernel
  have o6 : PyData.strOk (Str.ofString "part") = true := by decide +kernel
  have o7 : PyData.strOk (Str.ofString "times") = true := by decide +kernel
  cases v with
  | word w =>
    have ow := strOk_nm h.1
    refine ⟨_, rfl, by simp, by simp, ?_⟩
    simp [okD, D.dat, datAll, D.py, pyAll, SeqAt.shaped, PyData.canLay0, PyData.canLayAll0, PyData.depth, PyData.depthAll, o3, ow]
  | of p t b =>
    have op : PyData.strOk p = true := by
      have : ∀ q ∈ nums, PyData.strOk q = true := by decide +kernel
      exact this p h.1
    refine ⟨_, rfl, by simp, by simp, ?_⟩
    simp [okD, D.dat, datAll, D.py, pyAll, SeqAt.shaped, PyData.canLay0, PyData.canLayAll0, PyData.depth, PyData.depthAll, o4, op]
  | _ =>
    refine ⟨_, rfl, by simp, by simp, ?_⟩
    simp [okD, D.dat, datAll, D.py, pyAll, SeqAt.shaped, PyData.canLay0, PyData.canLayAll0, PyData.depth, PyData.depthAll, o1, o2, o3, o4, o5, o6, o7]
end Lk47

set_option linter.all false
set_option maxRecDepth 100000
set_option maxHeartbeats 8000000
set_option exponentiation.threshold 2000
namespace Lk47
open PySem PySem.Spec PyProof.Rows L2 Mi
theorem fmodP (a b : Int) (h : 0 ≤ b) : a.fmod b = a % b := Int.fmod_eq_emod_of_nonneg a h
theorem fdivP (a b : Int) (h : 0 ≤ b) : a.fdiv b = a / b := Int.fdiv_eq_ediv_of_nonneg a h
theorem dk7 : divOk 7 = true := by decide +kernel
theorem dk21 : divOk 21 = true := by decide +kernel
theorem dk252 : divOk 252 = true := by decide +kernel
theorem dk4 : divOk 4 = true := by decide +kernel
def nmB (w : Str) : Bool := decide (1 ≤ w.length) && decide (w.length ≤ 8) && (TL.tl w).all (fun c => decide (97 ≤ c) && decide (c ≤ 122)) && decide (w ≠ Str.ofString "hand") && decide (w ≠ Str.ofString "start")
theorem nmB_ok {n : Nat} {w : Str} (h : nmB w = true) : (Vl.word w).ok n := by
  unfold nmB at h
  simp only [Bool.and_eq_true, decide_eq_true_eq, List.all_eq_true] at h
  obtain ⟨⟨⟨⟨h1, h2⟩, h3⟩, h4⟩, h5⟩ := h
  exact ⟨⟨h1, h2, h3⟩, h4, h5⟩
theorem props_at (i : Nat) : ∃ q, q ∈ nums ∧ atI (props.map D.str) (1 + ((i : Nat) : Int) % 9) = some (.str q) := by
  have e : (1 + ((i : Nat) : Int) % 9) = ((1 + i % 9 : Nat) : Int) := by omega
  have h : ∀ j < 9, ∃ q, q ∈ nums ∧ (props.map D.str)[1 + j]? = some (.str q) := by
    intro j hj
    have hp : ∀ j < 9, (props.map D.str)[1 + j]? = some (D.str (nums.getD j Str.empty)) ∧ nums.getD j Str.empty ∈ nums := by
      intro j hj
      match j, hj with
      | 0, _ => exact ⟨rfl, by decide +kernel⟩
      | 1, _ => exact ⟨rfl, by decide +kernel⟩
      | 2, _ => exact ⟨rfl, by decide +kernel⟩
      | 3, _ => exact ⟨rfl, by decide +kernel⟩
      | 4, _ => exact ⟨rfl, by decide +kernel⟩
      | 5, _ => exact ⟨rfl, by decide +kernel⟩
      | 6, _ => exact ⟨rfl, by decide +kernel⟩
      | 7, _ => exact ⟨rfl, by decide +kernel⟩
      | 8, _ => exact ⟨rfl, by decide +kernel⟩
      | n + 9, h => omega
    exact ⟨_, (hp j hj).2, (hp j hj).1⟩
  obtain ⟨q, h1, h2⟩ := h (i % 9) (Nat.mod_lt _ (by decide))
  refine ⟨q, h1, ?_⟩
  rw [e, atI_nat _ _ (by
    have : (props.map D.str).length = 13 := by decide +kernel
    omega)]
  exact h2
/-- the pair that is drawn -/
theorem pair_ok (c o : Int) (m : Nat) : ∃ t b : Nat, Big 30 t b ∧ (if (m : Int) / 7 % 3 = 0 then ((m : Int) / 21 % 12, 1 + (m : Int) / 252 % 4) else (c % 1000000000000000000000000000000, 1 + o % 999999999999999999999999999999)) = ((t : Int), (b : Int)) := by
  have e30 : (10 : Nat) ^ 30 = 1000000000000000000000000000000 := by decide
  unfold Big
  by_cases h : (m : Int) / 7 % 3 = 0
  · refine ⟨m / 21 % 12, 1 + m / 252 % 4, ⟨by omega, by omega, by omega⟩, ?_⟩
    rw [if_pos h]
    simp
  · refine ⟨(c % 1000000000000000000000000000000).toNat, (1 + o % 999999999999999999999999999999).toNat, ⟨by omega, by omega, by omega⟩, ?_⟩
    rw [if_neg h]
    simp only [Prod.mk.injEq]
    omega
theorem f17_ink (k : Nat) (c o : Int) (w : Nat) (hs : HS) (hw : w < 80000) : ∃ v : Vl, v.ok 30 ∧ F (k + 3) 17 [.str (Str.ofString "ink"), .int c, .int o, .int (w : Nat)] hs = some (.ok v.d ⟨[], hs⟩) := by
  rw [F_of (d := d17) rfl, fnR_ap]
  have a1 := f11_ (k + 1) c w hs (by omega)
  have hin : ∀ x : Str, inD (.str x) [.str (Str.ofString "hand"), .str (Str.ofString "start")] = (decide (Str.ofString "hand" = x) || decide (Str.ofString "start" = x)) := fun x => by
    show ((Str.ofString "hand" == x) || ((Str.ofString "start" == x) || false)) = _
    rw [Bool.or_false]
    rfl
  have a2 : F (k + 2) 12 [.int o, .int ((w : Int) + 1)] hs = some (.ok (.str (nw o (w + 1))) ⟨[], hs⟩) := f12_ k o (w + 1) hs (by omega)
  generalize mx c w = m at a1
  by_cases h1 : (m : Int) % 7 < 2
  · have h2 : (m : Int) % 2 = 0 ∨ (m : Int) % 2 = 1 := by omega
    rcases h2 with h2 | h2
    · exact ⟨.hand, trivial, by simp [d17, b17, start0, a1, fmodP, h1, h2, Vl.d]⟩
    · exact ⟨.start, trivial, by simp [d17, b17, start0, a1, fmodP, h1, h2, Vl.d]⟩
  · have okw := nw_ok o (w + 1)
    generalize nw o (w + 1) = z at a2 okw
    by_cases e1 : Str.ofString "hand" = z
    · refine ⟨.word (Str.ofString "of"), nmB_ok (by decide +kernel), ?_⟩
      simp [d17, b17, start0, a1, a2, fmodP, h1, hin, D.flat, ← e1, Vl.d]
    · by_cases e2 : Str.ofString "start" = z
      · refine ⟨.word (Str.ofString "of"), nmB_ok (by decide +kernel), ?_⟩
        simp [d17, b17, start0, a1, a2, fmodP, h1, hin, D.flat, ← e2, Vl.d]
      · refine ⟨.word z, ⟨okw, Ne.symm e1, Ne.symm e2⟩, ?_⟩
        simp [d17, b17, start0, a1, a2, fmodP, h1, hin, D.flat, e1, e2, Vl.d]
end Lk47

set_option linter.all false
set_option maxRecDepth 100000
set_option maxHeartbeats 16000000
set_option exponentiation.threshold 2000
namespace Lk47
open PySem PySem.Spec PyProof.Rows L2 Mi
theorem f17_word (k : Nat) (p : Str) (hp : p = Str.ofString "flow" ∨ p = Str.ofString "spread" ∨ p = Str.ofString "stand") (c o : Int) (w : Nat) (hs : HS) (hw : w < 80000) : ∃ v : Vl, v.ok 30 ∧ F (k + 3) 17 [.str p, .int c, .int o, .int (w : Nat)] hs = some (.ok v.d ⟨[], hs⟩) := by
  rw [F_of (d := d17) rfl, fnR_ap]
  have a1 := f11_ (k + 1) c w hs (by omega)
  have hin : ∀ x a b c : Str, inD (.str x) [.str a, .str b, .str c] = (decide (a = x) || (decide (b = x) || decide (c = x))) := fun x a b c => by
    show ((a == x) || ((b == x) || ((c == x) || false))) = _
    rw [Bool.or_false]
    rfl
  generalize mx c w = m at a1
  by_cases h1 : (m : Int) % 7 < 2
  · have h2 : (m : Int) % 2 = 0 ∨ (m : Int) % 2 = 1 := by omega
    rcases h2 with h2 | h2
    · exact ⟨.hand, trivial, by simp [d17, b17, start0, a1, fmodP, h1, h2, Vl.d]⟩
    · exact ⟨.start, trivial, by simp [d17, b17, start0, a1, fmodP, h1, h2, Vl.d]⟩
  · have h2 : (m : Int) / 7 % 4 = 0 ∨ (m : Int) / 7 % 4 = 1 ∨ (m : Int) / 7 % 4 = 2 ∨ (m : Int) / 7 % 4 = 3 := by omega
    rcases hp with rfl | rfl | rfl
    · rcases h2 with h2 | h2 | h2 | h2
      · refine ⟨.word (Str.ofString "stack"), nmB_ok (by decide +kernel), ?_⟩
        simp [d17, b17, start0, a1, fmodP, fdivP, h1, h2, dk7, putD_def, replD, hin, D.flat, Vl.d]
      · refine ⟨.word (Str.ofString "row"), nmB_ok (by decide +kernel), ?_⟩
        simp [d17, b17, start0, a1, fmodP, fdivP, h1, h2, dk7, putD_def, replD, hin, D.flat, Vl.d]
      · refine ⟨.word (Str.ofString "wrap"), nmB_ok (by decide +kernel), ?_⟩
        simp [d17, b17, start0, a1, fmodP, fdivP, h1, h2, dk7, putD_def, replD, hin, D.flat, Vl.d]
      · refine ⟨.word (Str.ofString "fair"), nmB_ok (by decide +kernel), ?_⟩
        simp [d17, b17, start0, a1, fmodP, fdivP, h1, h2, dk7, putD_def, replD, hin, D.flat, Vl.d]
    · rcases h2 with h2 | h2 | h2 | h2
      · refine ⟨.word (Str.ofString "left"), nmB_ok (by decide +kernel), ?_⟩
        simp [d17, b17, start0, a1, fmodP, fdivP, h1, h2, dk7, putD_def, replD, hin, D.flat, Vl.d]
      · refine ⟨.word (Str.ofString "middle"), nmB_ok (by decide +kernel), ?_⟩
        simp [d17, b17, start0, a1, fmodP, fdivP, h1, h2, dk7, putD_def, replD, hin, D.flat, Vl.d]
      · refine ⟨.word (Str.ofString "right"), nmB_ok (by decide +kernel), ?_⟩
        simp [d17, b17, start0, a1, fmodP, fdivP, h1, h2, dk7, putD_def, replD, hin, D.flat, Vl.d]
      · refine ⟨.word (Str.ofString "apart"), nmB_ok (by decide +kernel), ?_⟩
        simp [d17, b17, start0, a1, fmodP, fdivP, h1, h2, dk7, putD_def, replD, hin, D.flat, Vl.d]
    · rcases h2 with h2 | h2 | h2 | h2
      · refine ⟨.word (Str.ofString "top"), nmB_ok (by decide +kernel), ?_⟩
        simp [d17, b17, start0, a1, fmodP, fdivP, h1, h2, dk7, putD_def, replD, hin, D.flat, Vl.d]
      · refine ⟨.word (Str.ofString "middle"), nmB_ok (by decide +kernel), ?_⟩
        simp [d17, b17, start0, a1, fmodP, fdivP, h1, h2, dk7, putD_def, replD, hin, D.flat, Vl.d]
      · refine ⟨.word (Str.ofString "bottom"), nmB_ok (by decide +kernel), ?_⟩
        simp [d17, b17, start0, a1, fmodP, fdivP, h1, h2, dk7, putD_def, replD, hin, D.flat, Vl.d]
      · refine ⟨.word (Str.ofString "full"), nmB_ok (by decide +kernel), ?_⟩
        simp [d17, b17, start0, a1, fmodP, fdivP, h1, h2, dk7, putD_def, replD, hin, D.flat, Vl.d]
end Lk47

set_option linter.all false
set_option maxRecDepth 100000
set_option maxHeartbeats 16000000
set_option exponentiation.threshold 2000
namespace Lk47
open PySem PySem.Spec PyProof.Rows L2 Mi
theorem in3 (x a b c : Str) : inD (.str x) [.str a, .str b, .str c] = (decide (a = x) || (decide (b = x) || decide (c = x))) := by
  show ((a == x) || ((b == x) || ((c == x) || false))) = _
  rw [Bool.or_false]
  rfl
theorem f17_num (k : Nat) (p : Str) (hp : p ∈ nums) (c o : Int) (w : Nat) (hs : HS) (hw : w < 80000) : ∃ v : Vl, v.ok 30 ∧ F (k + 3) 17 [.str p, .int c, .int o, .int (w : Nat)] hs = some (.ok v.d ⟨[], hs⟩) := by
  rw [F_of (d := d17) rfl, fnR_ap]
  have a1 := f11_ (k + 1) c w hs (by omega)
  have a14 := f14_ (k + 1) hs
  generalize mx c w = m at a1
  obtain ⟨t, b, hB, he⟩ := pair_ok c o m
  obtain ⟨q, hq, ha⟩ := props_at (m / 21)
  have ha' : atI (props.map D.str) (1 + (m : Int) / 21 % 9) = some (.str q) := ha
  generalize props.map D.str = PL at a14 ha'
  by_cases h1 : (m : Int) % 7 < 2
  · have h2 : (m : Int) % 2 = 0 ∨ (m : Int) % 2 = 1 := by omega
    rcases h2 with h2 | h2
    · exact ⟨.hand, trivial, by simp [d17, b17, start0, a1, fmodP, h1, h2, Vl.d]⟩
    · exact ⟨.start, trivial, by simp [d17, b17, start0, a1, fmodP, h1, h2, Vl.d]⟩
  · have a14' : ∀ hs', F (k + 2) 14 [] hs' = some (.ok (.lst PL) ⟨[], hs'⟩) := fun hs' => by
      have z := f14_ (k + 1) hs'
      have z0 := f14_ (k + 1) hs
      rw [a14] at z0
      have ez : PL = props.map D.str := by
        have := Option.some.inj z0
        simp at this
        exact this
      rw [ez]
      exact z
    have h5 : (m : Int) % 2 = 0 ∨ (m : Int) % 2 = 1 := by omega
    simp only [nums, List.mem_cons, List.not_mem_nil, or_false] at hp
    by_cases h2 : (m : Int) % 7 = 2
    · by_cases hd : (m : Int) / 7 % 3 = 0
      · rw [if_pos hd] at he
        obtain ⟨e1, e2⟩ := Prod.mk.inj he
        rcases hp with rfl | rfl | rfl | rfl | rfl | rfl | rfl | rfl | rfl
        case inl =>
          rcases h5 with h5 | h5
          · exact ⟨.num t b, hB, by simp [d17, b17, start0, a1, a14', ha', fmodP, fdivP, h1, h2, hd, e1, e2, dk7, dk21, dk252, putD_def, replD, in3, D.flat, Vl.d, h5]⟩
          · exact ⟨.times t b, hB, by simp [d17, b17, start0, a1, a14', ha', fmodP, fdivP, h1, h2, hd, e1, e2, dk7, dk21, dk252, putD_def, replD, in3, D.flat, Vl.d, h5]⟩
        case inr.inl =>
          exact ⟨.word (Str.ofString "auto"), nmB_ok (by decide +kernel), by simp [d17, b17, start0, a1, a14', ha', fmodP, fdivP, h1, h2, hd, e1, e2, dk7, dk21, dk252, putD_def, replD, in3, D.flat, Vl.d]⟩
        case inr.inr.inl =>
          rcases h5 with h5 | h5
          · exact ⟨.num t b, hB, by simp [d17, b17, start0, a1, a14', ha', fmodP, fdivP, h1, h2, hd, e1, e2, dk7, dk21, dk252, putD_def, replD, in3, D.flat, Vl.d, h5]⟩
          · exact ⟨.times t b, hB, by simp [d17, b17, start0, a1, a14', ha', fmodP, fdivP, h1, h2, hd, e1, e2, dk7, dk21, dk252, putD_def, replD, in3, D.flat, Vl.d, h5]⟩
        case inr.inr.inr.inl =>
          exact ⟨.word (Str.ofString "none"), nmB_ok (by decide +kernel), by simp [d17, b17, start0, a1, a14', ha', fmodP, fdivP, h1, h2, hd, e1, e2, dk7, dk21, dk252, putD_def, replD, in3, D.flat, Vl.d]⟩
        case inr.inr.inr.inr.inl =>
          rcases h5 with h5 | h5
          · exact ⟨.num t b, hB, by simp [d17, b17, start0, a1, a14', ha', fmodP, fdivP, h1, h2, hd, e1, e2, dk7, dk21, dk252, putD_def, replD, in3, D.flat, Vl.d, h5]⟩
          · exact ⟨.times t b, hB, by simp [d17, b17, start0, a1, a14', ha', fmodP, fdivP, h1, h2, hd, e1, e2, dk7, dk21, dk252, putD_def, replD, in3, D.flat, Vl.d, h5]⟩
        case inr.inr.inr.inr.inr.inl =>
          rcases h5 with h5 | h5
          · exact ⟨.num t b, hB, by simp [d17, b17, start0, a1, a14', ha', fmodP, fdivP, h1, h2, hd, e1, e2, dk7, dk21, dk252, putD_def, replD, in3, D.flat, Vl.d, h5]⟩
          · exact ⟨.times t b, hB, by simp [d17, b17, start0, a1, a14', ha', fmodP, fdivP, h1, h2, hd, e1, e2, dk7, dk21, dk252, putD_def, replD, in3, D.flat, Vl.d, h5]⟩
        case inr.inr.inr.inr.inr.inr.inl =>
          rcases h5 with h5 | h5
          · exact ⟨.num t b, hB, by simp [d17, b17, start0, a1, a14', ha', fmodP, fdivP, h1, h2, hd, e1, e2, dk7, dk21, dk252, putD_def, replD, in3, D.flat, Vl.d, h5]⟩
          · exact ⟨.times t b, hB, by simp [d17, b17, start0, a1, a14', ha', fmodP, fdivP, h1, h2, hd, e1, e2, dk7, dk21, dk252, putD_def, replD, in3, D.flat, Vl.d, h5]⟩
        case inr.inr.inr.inr.inr.inr.inr.inl =>
          rcases h5 with h5 | h5
          · exact ⟨.num t b, hB, by simp [d17, b17, start0, a1, a14', ha', fmodP, fdivP, h1, h2, hd, e1, e2, dk7, dk21, dk252, putD_def, replD, in3, D.flat, Vl.d, h5]⟩
          · exact ⟨.times t b, hB, by simp [d17, b17, start0, a1, a14', ha', fmodP, fdivP, h1, h2, hd, e1, e2, dk7, dk21, dk252, putD_def, replD, in3, D.flat, Vl.d, h5]⟩
        case inr.inr.inr.inr.inr.inr.inr.inr =>
          rcases h5 with h5 | h5
          · exact ⟨.num t b, hB, by simp [d17, b17, start0, a1, a14', ha', fmodP, fdivP, h1, h2, hd, e1, e2, dk7, dk21, dk252, putD_def, replD, in3, D.flat, Vl.d, h5]⟩
          · exact ⟨.times t b, hB, by simp [d17, b17, start0, a1, a14', ha', fmodP, fdivP, h1, h2, hd, e1, e2, dk7, dk21, dk252, putD_def, replD, in3, D.flat, Vl.d, h5]⟩
      · rw [if_neg hd] at he
        obtain ⟨e1, e2⟩ := Prod.mk.inj he
        rcases hp with rfl | rfl | rfl | rfl | rfl | rfl | rfl | rfl | rfl
        case inl =>
          rcases h5 with h5 | h5
          · exact ⟨.num t b, hB, by simp [d17, b17, start0, a1, a14', ha', fmodP, fdivP, h1, h2, hd, e1, e2, dk7, dk21, dk252, putD_def, replD, in3, D.flat, Vl.d, h5]⟩
          · exact ⟨.times t b, hB, by simp [d17, b17, start0, a1, a14', ha', fmodP, fdivP, h1, h2, hd, e1, e2, dk7, dk21, dk252, putD_def, replD, in3, D.flat, Vl.d, h5]⟩
        case inr.inl =>
          exact ⟨.word (Str.ofString "auto"), nmB_ok (by decide +kernel), by simp [d17, b17, start0, a1, a14', ha', fmodP, fdivP, h1, h2, hd, e1, e2, dk7, dk21, dk252, putD_def, replD, in3, D.flat, Vl.d]⟩
        case inr.inr.inl =>
          rcases h5 with h5 | h5
          · exact ⟨.num t b, hB, by simp [d17, b17, start0, a1, a14', ha', fmodP, fdivP, h1, h2, hd, e1, e2, dk7, dk21, dk252, putD_def, replD, in3, D.flat, Vl.d, h5]⟩
          · exact ⟨.times t b, hB, by simp [d17, b17, start0, a1, a14', ha', fmodP, fdivP, h1, h2, hd, e1, e2, dk7, dk21, dk252, putD_def, replD, in3, D.flat, Vl.d, h5]⟩
        case inr.inr.inr.inl =>
          exact ⟨.word (Str.ofString "none"), nmB_ok (by decide +kernel), by simp [d17, b17, start0, a1, a14', ha', fmodP, fdivP, h1, h2, hd, e1, e2, dk7, dk21, dk252, putD_def, replD, in3, D.flat, Vl.d]⟩
        case inr.inr.inr.inr.inl =>
          rcases h5 with h5 | h5
          · exact ⟨.num t b, hB, by simp [d17, b17, start0, a1, a14', ha', fmodP, fdivP, h1, h2, hd, e1, e2, dk7, dk21, dk252, putD_def, replD, in3, D.flat, Vl.d, h5]⟩
          · exact ⟨.times t b, hB, by simp [d17, b17, start0, a1, a14', ha', fmodP, fdivP, h1, h2, hd, e1, e2, dk7, dk21, dk252, putD_def, replD, in3, D.flat, Vl.d, h5]⟩
        case inr.inr.inr.inr.inr.inl =>
          rcases h5 with h5 | h5
          · exact ⟨.num t b, hB, by simp [d17, b17, start0, a1, a14', ha', fmodP, fdivP, h1, h2, hd, e1, e2, dk7, dk21, dk252, putD_def, replD, in3, D.flat, Vl.d, h5]⟩
          · exact ⟨.times t b, hB, by simp [d17, b17, start0, a1, a14', ha', fmodP, fdivP, h1, h2, hd, e1, e2, dk7, dk21, dk252, putD_def, replD, in3, D.flat, Vl.d, h5]⟩
        case inr.inr.inr.inr.inr.inr.inl =>
          rcases h5 with h5 | h5
          · exact ⟨.num t b, hB, by simp [d17, b17, start0, a1, a14', ha', fmodP, fdivP, h1, h2, hd, e1, e2, dk7, dk21, dk252, putD_def, replD, in3, D.flat, Vl.d, h5]⟩
          · exact ⟨.times t b, hB, by simp [d17, b17, start0, a1, a14', ha', fmodP, fdivP, h1, h2, hd, e1, e2, dk7, dk21, dk252, putD_def, replD, in3, D.flat, Vl.d, h5]⟩
        case inr.inr.inr.inr.inr.inr.inr.inl =>
          rcases h5 with h5 | h5
          · exact ⟨.num t b, hB, by simp [d17, b17, start0, a1, a14', ha', fmodP, fdivP, h1, h2, hd, e1, e2, dk7, dk21, dk252, putD_def, replD, in3, D.flat, Vl.d, h5]⟩
          · exact ⟨.times t b, hB, by simp [d17, b17, start0, a1, a14', ha', fmodP, fdivP, h1, h2, hd, e1, e2, dk7, dk21, dk252, putD_def, replD, in3, D.flat, Vl.d, h5]⟩
        case inr.inr.inr.inr.inr.inr.inr.inr =>
          rcases h5 with h5 | h5
          · exact ⟨.num t b, hB, by simp [d17, b17, start0, a1, a14', ha', fmodP, fdivP, h1, h2, hd, e1, e2, dk7, dk21, dk252, putD_def, replD, in3, D.flat, Vl.d, h5]⟩
          · exact ⟨.times t b, hB, by simp [d17, b17, start0, a1, a14', ha', fmodP, fdivP, h1, h2, hd, e1, e2, dk7, dk21, dk252, putD_def, replD, in3, D.flat, Vl.d, h5]⟩
    · by_cases h3 : (m : Int) % 7 = 3
      · by_cases hd : (m : Int) / 7 % 3 = 0
        · rw [if_pos hd] at he
          obtain ⟨e1, e2⟩ := Prod.mk.inj he
          rcases hp with rfl | rfl | rfl | rfl | rfl | rfl | rfl | rfl | rfl
          case inl =>
            exact ⟨.of q t b, ⟨hq, hB⟩, by simp [d17, b17, start0, a1, a14', ha', fmodP, fdivP, h1, h2, h3, hd, e1, e2, dk7, dk21, dk252, putD_def, replD, in3, D.flat, Vl.d]⟩
          case inr.inl =>
            exact ⟨.of q t b, ⟨hq, hB⟩, by simp [d17, b17, start0, a1, a14', ha', fmodP, fdivP, h1, h2, h3, hd, e1, e2, dk7, dk21, dk252, putD_def, replD, in3, D.flat, Vl.d]⟩
          case inr.inr.inl =>
            exact ⟨.of q t b, ⟨hq, hB⟩, by simp [d17, b17, start0, a1, a14', ha', fmodP, fdivP, h1, h2, h3, hd, e1, e2, dk7, dk21, dk252, putD_def, replD, in3, D.flat, Vl.d]⟩
          case inr.inr.inr.inl =>
            exact ⟨.of q t b, ⟨hq, hB⟩, by simp [d17, b17, start0, a1, a14', ha', fmodP, fdivP, h1, h2, h3, hd, e1, e2, dk7, dk21, dk252, putD_def, replD, in3, D.flat, Vl.d]⟩
          case inr.inr.inr.inr.inl =>
            exact ⟨.of q t b, ⟨hq, hB⟩, by simp [d17, b17, start0, a1, a14', ha', fmodP, fdivP, h1, h2, h3, hd, e1, e2, dk7, dk21, dk252, putD_def, replD, in3, D.flat, Vl.d]⟩
          case inr.inr.inr.inr.inr.inl =>
            exact ⟨.of q t b, ⟨hq, hB⟩, by simp [d17, b17, start0, a1, a14', ha', fmodP, fdivP, h1, h2, h3, hd, e1, e2, dk7, dk21, dk252, putD_def, replD, in3, D.flat, Vl.d]⟩
          case inr.inr.inr.inr.inr.inr.inl =>
            exact ⟨.of q t b, ⟨hq, hB⟩, by simp [d17, b17, start0, a1, a14', ha', fmodP, fdivP, h1, h2, h3, hd, e1, e2, dk7, dk21, dk252, putD_def, replD, in3, D.flat, Vl.d]⟩
          case inr.inr.inr.inr.inr.inr.inr.inl =>
            exact ⟨.of q t b, ⟨hq, hB⟩, by simp [d17, b17, start0, a1, a14', ha', fmodP, fdivP, h1, h2, h3, hd, e1, e2, dk7, dk21, dk252, putD_def, replD, in3, D.flat, Vl.d]⟩
          case inr.inr.inr.inr.inr.inr.inr.inr =>
            exact ⟨.of q t b, ⟨hq, hB⟩, by simp [d17, b17, start0, a1, a14', ha', fmodP, fdivP, h1, h2, h3, hd, e1, e2, dk7, dk21, dk252, putD_def, replD, in3, D.flat, Vl.d]⟩
        · rw [if_neg hd] at he
          obtain ⟨e1, e2⟩ := Prod.mk.inj he
          rcases hp with rfl | rfl | rfl | rfl | rfl | rfl | rfl | rfl | rfl
          case inl =>
            exact ⟨.of q t b, ⟨hq, hB⟩, by simp [d17, b17, start0, a1, a14', ha', fmodP, fdivP, h1, h2, h3, hd, e1, e2, dk7, dk21, dk252, putD_def, replD, in3, D.flat, Vl.d]⟩
          case inr.inl =>
            exact ⟨.of q t b, ⟨hq, hB⟩, by simp [d17, b17, start0, a1, a14', ha', fmodP, fdivP, h1, h2, h3, hd, e1, e2, dk7, dk21, dk252, putD_def, replD, in3, D.flat, Vl.d]⟩
          case inr.inr.inl =>
            exact ⟨.of q t b, ⟨hq, hB⟩, by simp [d17, b17, start0, a1, a14', ha', fmodP, fdivP, h1, h2, h3, hd, e1, e2, dk7, dk21, dk252, putD_def, replD, in3, D.flat, Vl.d]⟩
          case inr.inr.inr.inl =>
            exact ⟨.of q t b, ⟨hq, hB⟩, by simp [d17, b17, start0, a1, a14', ha', fmodP, fdivP, h1, h2, h3, hd, e1, e2, dk7, dk21, dk252, putD_def, replD, in3, D.flat, Vl.d]⟩
          case inr.inr.inr.inr.inl =>
            exact ⟨.of q t b, ⟨hq, hB⟩, by simp [d17, b17, start0, a1, a14', ha', fmodP, fdivP, h1, h2, h3, hd, e1, e2, dk7, dk21, dk252, putD_def, replD, in3, D.flat, Vl.d]⟩
          case inr.inr.inr.inr.inr.inl =>
            exact ⟨.of q t b, ⟨hq, hB⟩, by simp [d17, b17, start0, a1, a14', ha', fmodP, fdivP, h1, h2, h3, hd, e1, e2, dk7, dk21, dk252, putD_def, replD, in3, D.flat, Vl.d]⟩
          case inr.inr.inr.inr.inr.inr.inl =>
            exact ⟨.of q t b, ⟨hq, hB⟩, by simp [d17, b17, start0, a1, a14', ha', fmodP, fdivP, h1, h2, h3, hd, e1, e2, dk7, dk21, dk252, putD_def, replD, in3, D.flat, Vl.d]⟩
          case inr.inr.inr.inr.inr.inr.inr.inl =>
            exact ⟨.of q t b, ⟨hq, hB⟩, by simp [d17, b17, start0, a1, a14', ha', fmodP, fdivP, h1, h2, h3, hd, e1, e2, dk7, dk21, dk252, putD_def, replD, in3, D.flat, Vl.d]⟩
          case inr.inr.inr.inr.inr.inr.inr.inr =>
            exact ⟨.of q t b, ⟨hq, hB⟩, by simp [d17, b17, start0, a1, a14', ha', fmodP, fdivP, h1, h2, h3, hd, e1, e2, dk7, dk21, dk252, putD_def, replD, in3, D.flat, Vl.d]⟩
      · by_cases h4 : (m : Int) % 7 = 4
        · by_cases hd : (m : Int) / 7 % 3 = 0
          · rw [if_pos hd] at he
            obtain ⟨e1, e2⟩ := Prod.mk.inj he
            rcases hp with rfl | rfl | rfl | rfl | rfl | rfl | rfl | rfl | rfl
            case inl =>
              rcases h5 with h5 | h5
              · exact ⟨.num t b, hB, by simp [d17, b17, start0, a1, a14', ha', fmodP, fdivP, h1, h2, h3, h4, hd, e1, e2, dk7, dk21, dk252, putD_def, replD, in3, D.flat, Vl.d, h5]⟩
              · exact ⟨.times t b, hB, by simp [d17, b17, start0, a1, a14', ha', fmodP, fdivP, h1, h2, h3, h4, hd, e1, e2, dk7, dk21, dk252, putD_def, replD, in3, D.flat, Vl.d, h5]⟩
            case inr.inl =>
              exact ⟨.part t b, hB, by simp [d17, b17, start0, a1, a14', ha', fmodP, fdivP, h1, h2, h3, h4, hd, e1, e2, dk7, dk21, dk252, putD_def, replD, in3, D.flat, Vl.d]⟩
            case inr.inr.inl =>
              exact ⟨.part t b, hB, by simp [d17, b17, start0, a1, a14', ha', fmodP, fdivP, h1, h2, h3, h4, hd, e1, e2, dk7, dk21, dk252, putD_def, replD, in3, D.flat, Vl.d]⟩
            case inr.inr.inr.inl =>
              exact ⟨.part t b, hB, by simp [d17, b17, start0, a1, a14', ha', fmodP, fdivP, h1, h2, h3, h4, hd, e1, e2, dk7, dk21, dk252, putD_def, replD, in3, D.flat, Vl.d]⟩
            case inr.inr.inr.inr.inl =>
              rcases h5 with h5 | h5
              · exact ⟨.num t b, hB, by simp [d17, b17, start0, a1, a14', ha', fmodP, fdivP, h1, h2, h3, h4, hd, e1, e2, dk7, dk21, dk252, putD_def, replD, in3, D.flat, Vl.d, h5]⟩
              · exact ⟨.times t b, hB, by simp [d17, b17, start0, a1, a14', ha', fmodP, fdivP, h1, h2, h3, h4, hd, e1, e2, dk7, dk21, dk252, putD_def, replD, in3, D.flat, Vl.d, h5]⟩
            case inr.inr.inr.inr.inr.inl =>
              rcases h5 with h5 | h5
              · exact ⟨.num t b, hB, by simp [d17, b17, start0, a1, a14', ha', fmodP, fdivP, h1, h2, h3, h4, hd, e1, e2, dk7, dk21, dk252, putD_def, replD, in3, D.flat, Vl.d, h5]⟩
              · exact ⟨.times t b, hB, by simp [d17, b17, start0, a1, a14', ha', fmodP, fdivP, h1, h2, h3, h4, hd, e1, e2, dk7, dk21, dk252, putD_def, replD, in3, D.flat, Vl.d, h5]⟩
            case inr.inr.inr.inr.inr.inr.inl =>
              rcases h5 with h5 | h5
              · exact ⟨.num t b, hB, by simp [d17, b17, start0, a1, a14', ha', fmodP, fdivP, h1, h2, h3, h4, hd, e1, e2, dk7, dk21, dk252, putD_def, replD, in3, D.flat, Vl.d, h5]⟩
              · exact ⟨.times t b, hB, by simp [d17, b17, start0, a1, a14', ha', fmodP, fdivP, h1, h2, h3, h4, hd, e1, e2, dk7, dk21, dk252, putD_def, replD, in3, D.flat, Vl.d, h5]⟩
            case inr.inr.inr.inr.inr.inr.inr.inl =>
              rcases h5 with h5 | h5
              · exact ⟨.num t b, hB, by simp [d17, b17, start0, a1, a14', ha', fmodP, fdivP, h1, h2, h3, h4, hd, e1, e2, dk7, dk21, dk252, putD_def, replD, in3, D.flat, Vl.d, h5]⟩
              · exact ⟨.times t b, hB, by simp [d17, b17, start0, a1, a14', ha', fmodP, fdivP, h1, h2, h3, h4, hd, e1, e2, dk7, dk21, dk252, putD_def, replD, in3, D.flat, Vl.d, h5]⟩
            case inr.inr.inr.inr.inr.inr.inr.inr =>
              rcases h5 with h5 | h5
              · exact ⟨.num t b, hB, by simp [d17, b17, start0, a1, a14', ha', fmodP, fdivP, h1, h2, h3, h4, hd, e1, e2, dk7, dk21, dk252, putD_def, replD, in3, D.flat, Vl.d, h5]⟩
              · exact ⟨.times t b, hB, by simp [d17, b17, start0, a1, a14', ha', fmodP, fdivP, h1, h2, h3, h4, hd, e1, e2, dk7, dk21, dk252, putD_def, replD, in3, D.flat, Vl.d, h5]⟩
          · rw [if_neg hd] at he
            obtain ⟨e1, e2⟩ := Prod.mk.inj he
            rcases hp with rfl | rfl | rfl | rfl | rfl | rfl | rfl | rfl | rfl
            case inl =>
              rcases h5 with h5 | h5
              · exact ⟨.num t b, hB, by simp [d17, b17, start0, a1, a14', ha', fmodP, fdivP, h1, h2, h3, h4, hd, e1, e2, dk7, dk21, dk252, putD_def, replD, in3, D.flat, Vl.d, h5]⟩
              · exact ⟨.times t b, hB, by simp [d17, b17, start0, a1, a14', ha', fmodP, fdivP, h1, h2, h3, h4, hd, e1, e2, dk7, dk21, dk252, putD_def, replD, in3, D.flat, Vl.d, h5]⟩
            case inr.inl =>
              exact ⟨.part t b, hB, by simp [d17, b17, start0, a1, a14', ha', fmodP, fdivP, h1, h2, h3, h4, hd, e1, e2, dk7, dk21, dk252, putD_def, replD, in3, D.flat, Vl.d]⟩
            case inr.inr.inl =>
              exact ⟨.part t b, hB, by simp [d17, b17, start0, a1, a14', ha', fmodP, fdivP, h1, h2, h3, h4, hd, e1, e2, dk7, dk21, dk252, putD_def, replD, in3, D.flat, Vl.d]⟩
            case inr.inr.inr.inl =>
              exact ⟨.part t b, hB, by simp [d17, b17, start0, a1, a14', ha', fmodP, fdivP, h1, h2, h3, h4, hd, e1, e2, dk7, dk21, dk252, putD_def, replD, in3, D.flat, Vl.d]⟩
            case inr.inr.inr.inr.inl =>
              rcases h5 with h5 | h5
              · exact ⟨.num t b, hB, by simp [d17, b17, start0, a1, a14', ha', fmodP, fdivP, h1, h2, h3, h4, hd, e1, e2, dk7, dk21, dk252, putD_def, replD, in3, D.flat, Vl.d, h5]⟩
              · exact ⟨.times t b, hB, by simp [d17, b17, start0, a1, a14', ha', fmodP, fdivP, h1, h2, h3, h4, hd, e1, e2, dk7, dk21, dk252, putD_def, replD, in3, D.flat, Vl.d, h5]⟩
            case inr.inr.inr.inr.inr.inl =>
              rcases h5 with h5 | h5
              · exact ⟨.num t b, hB, by simp [d17, b17, start0, a1, a14', ha', fmodP, fdivP, h1, h2, h3, h4, hd, e1, e2, dk7, dk21, dk252, putD_def, replD, in3, D.flat, Vl.d, h5]⟩
              · exact ⟨.times t b, hB, by simp [d17, b17, start0, a1, a14', ha', fmodP, fdivP, h1, h2, h3, h4, hd, e1, e2, dk7, dk21, dk252, putD_def, replD, in3, D.flat, Vl.d, h5]⟩
            case inr.inr.inr.inr.inr.inr.inl =>
              rcases h5 with h5 | h5
              · exact ⟨.num t b, hB, by simp [d17, b17, start0, a1, a14', ha', fmodP, fdivP, h1, h2, h3, h4, hd, e1, e2, dk7, dk21, dk252, putD_def, replD, in3, D.flat, Vl.d, h5]⟩
              · exact ⟨.times t b, hB, by simp [d17, b17, start0, a1, a14', ha', fmodP, fdivP, h1, h2, h3, h4, hd, e1, e2, dk7, dk21, dk252, putD_def, replD, in3, D.flat, Vl.d, h5]⟩
            case inr.inr.inr.inr.inr.inr.inr.inl =>
              rcases h5 with h5 | h5
              · exact ⟨.num t b, hB, by simp [d17, b17, start0, a1, a14', ha', fmodP, fdivP, h1, h2, h3, h4, hd, e1, e2, dk7, dk21, dk252, putD_def, replD, in3, D.flat, Vl.d, h5]⟩
              · exact ⟨.times t b, hB, by simp [d17, b17, start0, a1, a14', ha', fmodP, fdivP, h1, h2, h3, h4, hd, e1, e2, dk7, dk21, dk252, putD_def, replD, in3, D.flat, Vl.d, h5]⟩
            case inr.inr.inr.inr.inr.inr.inr.inr =>
              rcases h5 with h5 | h5
              · exact ⟨.num t b, hB, by simp [d17, b17, start0, a1, a14', ha', fmodP, fdivP, h1, h2, h3, h4, hd, e1, e2, dk7, dk21, dk252, putD_def, replD, in3, D.flat, Vl.d, h5]⟩
              · exact ⟨.times t b, hB, by simp [d17, b17, start0, a1, a14', ha', fmodP, fdivP, h1, h2, h3, h4, hd, e1, e2, dk7, dk21, dk252, putD_def, replD, in3, D.flat, Vl.d, h5]⟩
        · by_cases hd : (m : Int) / 7 % 3 = 0
          · rw [if_pos hd] at he
            obtain ⟨e1, e2⟩ := Prod.mk.inj he
            rcases hp with rfl | rfl | rfl | rfl | rfl | rfl | rfl | rfl | rfl
            case inl =>
              rcases h5 with h5 | h5
              · exact ⟨.num t b, hB, by simp [d17, b17, start0, a1, a14', ha', fmodP, fdivP, h1, h2, h3, h4, hd, e1, e2, dk7, dk21, dk252, putD_def, replD, in3, D.flat, Vl.d, h5]⟩
              · exact ⟨.times t b, hB, by simp [d17, b17, start0, a1, a14', ha', fmodP, fdivP, h1, h2, h3, h4, hd, e1, e2, dk7, dk21, dk252, putD_def, replD, in3, D.flat, Vl.d, h5]⟩
            case inr.inl =>
              rcases h5 with h5 | h5
              · exact ⟨.num t b, hB, by simp [d17, b17, start0, a1, a14', ha', fmodP, fdivP, h1, h2, h3, h4, hd, e1, e2, dk7, dk21, dk252, putD_def, replD, in3, D.flat, Vl.d, h5]⟩
              · exact ⟨.times t b, hB, by simp [d17, b17, start0, a1, a14', ha', fmodP, fdivP, h1, h2, h3, h4, hd, e1, e2, dk7, dk21, dk252, putD_def, replD, in3, D.flat, Vl.d, h5]⟩
            case inr.inr.inl =>
              rcases h5 with h5 | h5
              · exact ⟨.num t b, hB, by simp [d17, b17, start0, a1, a14', ha', fmodP, fdivP, h1, h2, h3, h4, hd, e1, e2, dk7, dk21, dk252, putD_def, replD, in3, D.flat, Vl.d, h5]⟩
              · exact ⟨.times t b, hB, by simp [d17, b17, start0, a1, a14', ha', fmodP, fdivP, h1, h2, h3, h4, hd, e1, e2, dk7, dk21, dk252, putD_def, replD, in3, D.flat, Vl.d, h5]⟩
            case inr.inr.inr.inl =>
              rcases h5 with h5 | h5
              · exact ⟨.num t b, hB, by simp [d17, b17, start0, a1, a14', ha', fmodP, fdivP, h1, h2, h3, h4, hd, e1, e2, dk7, dk21, dk252, putD_def, replD, in3, D.flat, Vl.d, h5]⟩
              · exact ⟨.times t b, hB, by simp [d17, b17, start0, a1, a14', ha', fmodP, fdivP, h1, h2, h3, h4, hd, e1, e2, dk7, dk21, dk252, putD_def, replD, in3, D.flat, Vl.d, h5]⟩
            case inr.inr.inr.inr.inl =>
              rcases h5 with h5 | h5
              · exact ⟨.num t b, hB, by simp [d17, b17, start0, a1, a14', ha', fmodP, fdivP, h1, h2, h3, h4, hd, e1, e2, dk7, dk21, dk252, putD_def, replD, in3, D.flat, Vl.d, h5]⟩
              · exact ⟨.times t b, hB, by simp [d17, b17, start0, a1, a14', ha', fmodP, fdivP, h1, h2, h3, h4, hd, e1, e2, dk7, dk21, dk252, putD_def, replD, in3, D.flat, Vl.d, h5]⟩
            case inr.inr.inr.inr.inr.inl =>
              rcases h5 with h5 | h5
              · exact ⟨.num t b, hB, by simp [d17, b17, start0, a1, a14', ha', fmodP, fdivP, h1, h2, h3, h4, hd, e1, e2, dk7, dk21, dk252, putD_def, replD, in3, D.flat, Vl.d, h5]⟩
              · exact ⟨.times t b, hB, by simp [d17, b17, start0, a1, a14', ha', fmodP, fdivP, h1, h2, h3, h4, hd, e1, e2, dk7, dk21, dk252, putD_def, replD, in3, D.flat, Vl.d, h5]⟩
            case inr.inr.inr.inr.inr.inr.inl =>
              rcases h5 with h5 | h5
              · exact ⟨.num t b, hB, by simp [d17, b17, start0, a1, a14', ha', fmodP, fdivP, h1, h2, h3, h4, hd, e1, e2, dk7, dk21, dk252, putD_def, replD, in3, D.flat, Vl.d, h5]⟩
              · exact ⟨.times t b, hB, by simp [d17, b17, start0, a1, a14', ha', fmodP, fdivP, h1, h2, h3, h4, hd, e1, e2, dk7, dk21, dk252, putD_def, replD, in3, D.flat, Vl.d, h5]⟩
            case inr.inr.inr.inr.inr.inr.inr.inl =>
              rcases h5 with h5 | h5
              · exact ⟨.num t b, hB, by simp [d17, b17, start0, a1, a14', ha', fmodP, fdivP, h1, h2, h3, h4, hd, e1, e2, dk7, dk21, dk252, putD_def, replD, in3, D.flat, Vl.d, h5]⟩
              · exact ⟨.times t b, hB, by simp [d17, b17, start0, a1, a14', ha', fmodP, fdivP, h1, h2, h3, h4, hd, e1, e2, dk7, dk21, dk252, putD_def, replD, in3, D.flat, Vl.d, h5]⟩
            case inr.inr.inr.inr.inr.inr.inr.inr =>
              rcases h5 with h5 | h5
              · exact ⟨.num t b, hB, by simp [d17, b17, start0, a1, a14', ha', fmodP, fdivP, h1, h2, h3, h4, hd, e1, e2, dk7, dk21, dk252, putD_def, replD, in3, D.flat, Vl.d, h5]⟩
              · exact ⟨.times t b, hB, by simp [d17, b17, start0, a1, a14', ha', fmodP, fdivP, h1, h2, h3, h4, hd, e1, e2, dk7, dk21, dk252, putD_def, replD, in3, D.flat, Vl.d, h5]⟩
          · rw [if_neg hd] at he
            obtain ⟨e1, e2⟩ := Prod.mk.inj he
            rcases hp with rfl | rfl | rfl | rfl | rfl | rfl | rfl | rfl | rfl
            case inl =>
              rcases h5 with h5 | h5
              · exact ⟨.num t b, hB, by simp [d17, b17, start0, a1, a14', ha', fmodP, fdivP, h1, h2, h3, h4, hd, e1, e2, dk7, dk21, dk252, putD_def, replD, in3, D.flat, Vl.d, h5]⟩
              · exact ⟨.times t b, hB, by simp [d17, b17, start0, a1, a14', ha', fmodP, fdivP, h1, h2, h3, h4, hd, e1, e2, dk7, dk21, dk252, putD_def, replD, in3, D.flat, Vl.d, h5]⟩
            case inr.inl =>
              rcases h5 with h5 | h5
              · exact ⟨.num t b, hB, by simp [d17, b17, start0, a1, a14', ha', fmodP, fdivP, h1, h2, h3, h4, hd, e1, e2, dk7, dk21, dk252, putD_def, replD, in3, D.flat, Vl.d, h5]⟩
              · exact ⟨.times t b, hB, by simp [d17, b17, start0, a1, a14', ha', fmodP, fdivP, h1, h2, h3, h4, hd, e1, e2, dk7, dk21, dk252, putD_def, replD, in3, D.flat, Vl.d, h5]⟩
            case inr.inr.inl =>
              rcases h5 with h5 | h5
              · exact ⟨.num t b, hB, by simp [d17, b17, start0, a1, a14', ha', fmodP, fdivP, h1, h2, h3, h4, hd, e1, e2, dk7, dk21, dk252, putD_def, replD, in3, D.flat, Vl.d, h5]⟩
              · exact ⟨.times t b, hB, by simp [d17, b17, start0, a1, a14', ha', fmodP, fdivP, h1, h2, h3, h4, hd, e1, e2, dk7, dk21, dk252, putD_def, replD, in3, D.flat, Vl.d, h5]⟩
            case inr.inr.inr.inl =>
              rcases h5 with h5 | h5
              · exact ⟨.num t b, hB, by simp [d17, b17, start0, a1, a14', ha', fmodP, fdivP, h1, h2, h3, h4, hd, e1, e2, dk7, dk21, dk252, putD_def, replD, in3, D.flat, Vl.d, h5]⟩
              · exact ⟨.times t b, hB, by simp [d17, b17, start0, a1, a14', ha', fmodP, fdivP, h1, h2, h3, h4, hd, e1, e2, dk7, dk21, dk252, putD_def, replD, in3, D.flat, Vl.d, h5]⟩
            case inr.inr.inr.inr.inl =>
              rcases h5 with h5 | h5
              · exact ⟨.num t b, hB, by simp [d17, b17, start0, a1, a14', ha', fmodP, fdivP, h1, h2, h3, h4, hd, e1, e2, dk7, dk21, dk252, putD_def, replD, in3, D.flat, Vl.d, h5]⟩
              · exact ⟨.times t b, hB, by simp [d17, b17, start0, a1, a14', ha', fmodP, fdivP, h1, h2, h3, h4, hd, e1, e2, dk7, dk21, dk252, putD_def, replD, in3, D.flat, Vl.d, h5]⟩
            case inr.inr.inr.inr.inr.inl =>
              rcases h5 with h5 | h5
              · exact ⟨.num t b, hB, by simp [d17, b17, start0, a1, a14', ha', fmodP, fdivP, h1, h2, h3, h4, hd, e1, e2, dk7, dk21, dk252, putD_def, replD, in3, D.flat, Vl.d, h5]⟩
              · exact ⟨.times t b, hB, by simp [d17, b17, start0, a1, a14', ha', fmodP, fdivP, h1, h2, h3, h4, hd, e1, e2, dk7, dk21, dk252, putD_def, replD, in3, D.flat, Vl.d, h5]⟩
            case inr.inr.inr.inr.inr.inr.inl =>
              rcases h5 with h5 | h5
              · exact ⟨.num t b, hB, by simp [d17, b17, start0, a1, a14', ha', fmodP, fdivP, h1, h2, h3, h4, hd, e1, e2, dk7, dk21, dk252, putD_def, replD, in3, D.flat, Vl.d, h5]⟩
              · exact ⟨.times t b, hB, by simp [d17, b17, start0, a1, a14', ha', fmodP, fdivP, h1, h2, h3, h4, hd, e1, e2, dk7, dk21, dk252, putD_def, replD, in3, D.flat, Vl.d, h5]⟩
            case inr.inr.inr.inr.inr.inr.inr.inl =>
              rcases h5 with h5 | h5
              · exact ⟨.num t b, hB, by simp [d17, b17, start0, a1, a14', ha', fmodP, fdivP, h1, h2, h3, h4, hd, e1, e2, dk7, dk21, dk252, putD_def, replD, in3, D.flat, Vl.d, h5]⟩
              · exact ⟨.times t b, hB, by simp [d17, b17, start0, a1, a14', ha', fmodP, fdivP, h1, h2, h3, h4, hd, e1, e2, dk7, dk21, dk252, putD_def, replD, in3, D.flat, Vl.d, h5]⟩
            case inr.inr.inr.inr.inr.inr.inr.inr =>
              rcases h5 with h5 | h5
              · exact ⟨.num t b, hB, by simp [d17, b17, start0, a1, a14', ha', fmodP, fdivP, h1, h2, h3, h4, hd, e1, e2, dk7, dk21, dk252, putD_def, replD, in3, D.flat, Vl.d, h5]⟩
              · exact ⟨.times t b, hB, by simp [d17, b17, start0, a1, a14', ha', fmodP, fdivP, h1, h2, h3, h4, hd, e1, e2, dk7, dk21, dk252, putD_def, replD, in3, D.flat, Vl.d, h5]⟩
end Lk47

set_option linter.all false
set_option maxRecDepth 100000
set_option maxHeartbeats 16000000
set_option exponentiation.threshold 2000
namespace Lk47
open PySem PySem.Spec PyProof.Rows L2 Mi
def lbody : Bs := (.cons (.asg (.s 8) (.idx (.call 14 0 .nil) (.op .Mod (.call 11 2 (.cons (.v 7) (.cons (.v 6) .nil))) (.int 13)))) (.cons (.asg (.s 9) (.call 17 4 (.cons (.v 8) (.cons (.v 7) (.cons (.call 10 2 (.cons (.v 0) (.cons (.op .Add (.int 1) (.v 6)) .nil))) (.cons (.op .Add (.int 40) (.v 6)) .nil)))))) (.cons (.asg (.s 4) (.call 16 1 (.cons (.v 9) .nil))) (.cons (.asg (.s 10) (.call 8 1 (.cons (.v 9) .nil))) (.cons (.iff (.or (.cons (.not (.e (.isi "str" (.v 10)))) (.cons (.cmp .NotEq (.v 10) (.v 4)) (.cons (.not (.e (.call 20 2 (.cons (.call 9 1 (.cons (.v 4) .nil)) (.cons (.v 9) .nil))))) .nil)))) (.cons (.rt (.bl false)) .nil) .nil) .nil)))))
theorem f17_ (k : Nat) (p : Str) (hp : p ∈ props) (c o : Int) (w : Nat) (hs : HS) (hw : w < 80000) : ∃ v : Vl, v.ok 30 ∧ F (k + 3) 17 [.str p, .int c, .int o, .int (w : Nat)] hs = some (.ok v.d ⟨[], hs⟩) := by
  unfold props at hp
  simp only [List.mem_append, List.mem_singleton, List.mem_cons, List.not_mem_nil, or_false] at hp
  rcases hp with (rfl | hp) | hp
  · exact f17_ink k c o w hs hw
  · exact f17_num k p hp c o w hs hw
  · exact f17_word k p hp c o w hs hw
theorem Vl.up {v : Vl} (h : v.ok 30) : v.ok 300 := by
  have up : ∀ {t b : Nat}, Big 30 t b → Big 300 t b := fun {t b} h => ⟨Nat.lt_of_lt_of_le h.1 (Nat.pow_le_pow_right (by decide) (by decide)), Nat.lt_of_lt_of_le h.2.1 (Nat.pow_le_pow_right (by decide) (by decide)), h.2.2⟩
  cases v with
  | hand => trivial
  | start => trivial
  | word w => exact h
  | of p t b => exact ⟨h.1, up h.2⟩
  | num t b => exact up h
  | part t b => exact up h
  | times t b => exact up h
theorem prop_at (m : Nat) : ∃ q, q ∈ props ∧ atI (props.map D.str) (((m : Nat) : Int) % 13) = some (.str q) := by
  have e : (((m : Nat) : Int) % 13) = ((m % 13 : Nat) : Int) := by omega
  have hl : props.length = 13 := by decide +kernel
  have hm : m % 13 < props.length := by omega
  refine ⟨props[m % 13], List.getElem_mem hm, ?_⟩
  rw [e, atI_nat _ _ (by rw [List.length_map]; exact hm), List.getElem?_map, List.getElem?_eq_getElem hm]
  rfl
theorem step_ (k : Nat) (ns : List Int) (hn : ns.length ≤ 63) (i : Nat) (hi : i < 70) (c : Int) (hs : HS) (a1 a2 a3 a4 a5 a6 a7 a8 a9 a10 : Option L) : ∃ v : Vl, ∃ q : Str,
    bd (dnG (.tup (.cons (.s 6) (.cons (.s 7) .nil))) (.tup [.int (i : Nat), .int c]) ⟨[some (.v (scr ns)), a1, a2, a3, a4, a5, a6, a7, a8, a9, a10], hs⟩) (fun _ s => dnBs ⟨csOf cs, F (k + 4)⟩ lbody s)
    = some (.ok .nx ⟨[some (.v (scr ns)), a1, a2, a3, some (.v (.str v.tx)), a5, some (.v (.int (i : Nat))), some (.v (.int c)), some (.v (.str q)), some (.v v.d), some (.v (.str v.tx))], hs⟩) := by
  have b11 := f11_ (k + 3) c i hs (by omega)
  generalize mx c i = m at b11
  obtain ⟨q, hq, ha⟩ := prop_at m
  have b14 := f14_ (k + 3) hs
  have b10 := f10_ (k + 3) ns (1 + i) hs hn
  have e10 : ((1 + i : Nat) : Int) = 1 + (i : Int) := by omega
  rw [e10] at b10
  obtain ⟨v, hv, b17⟩ := f17_ (k + 1) q hq c (ns.getD (1 + i) 0) (40 + i) hs (by omega)
  have e17 : ((40 + i : Nat) : Int) = 40 + (i : Int) := by omega
  rw [e17] at b17
  have b16 := f16_ (k + 2) v hs (Vl.up hv)
  have b8 := f8_ (k + 2) v hs (Vl.up hv)
  have b9 := f9_ (k + 1) v hs hv
  obtain ⟨ds, ed, h1, h2, h3⟩ := alike_v v hv
  have b20 := f20_ (k + 2) ds hs h1 h2 h3
  rw [← ed] at b20
  generalize props.map D.str = PL at b14 ha
  generalize ns.getD (1 + i) 0 = g at b10 b17
  refine ⟨v, q, ?_⟩
  simp [lbody, b11, b14, ha, fmodP, b10, b17, b16, b8, b9, b20]
theorem loop_ (k : Nat) (ns : List Int) (hn : ns.length ≤ 63) (hs : HS) : ∀ (ds : List D), (∀ d ∈ ds, ∃ (i : Nat) (c : Int), i < 70 ∧ d = .tup [.int (i : Nat), .int c]) → ∀ a1 a2 a3 a4 a5 a6 a7 a8 a9 a10 : Option L, ∃ b4 b6 b7 b8 b9 b10 : Option L,
    forL (dnG (.tup (.cons (.s 6) (.cons (.s 7) .nil)))) (dnBs ⟨csOf cs, F (k + 4)⟩ lbody) ds ⟨[some (.v (scr ns)), a1, a2, a3, a4, a5, a6, a7, a8, a9, a10], hs⟩
    = some (.ok .nx ⟨[some (.v (scr ns)), a1, a2, a3, b4, a5, b6, b7, b8, b9, b10], hs⟩)
  | [], _, a1, a2, a3, a4, a5, a6, a7, a8, a9, a10 => ⟨a4, a6, a7, a8, a9, a10, rfl⟩
  | d :: ds, h, a1, a2, a3, a4, a5, a6, a7, a8, a9, a10 => by
    obtain ⟨i, c, hi, rfl⟩ := h d (List.mem_cons_self ..)
    obtain ⟨v, q, e⟩ := step_ k ns hn i hi c hs a1 a2 a3 a4 a5 a6 a7 a8 a9 a10
    obtain ⟨b4, b6, b7, b8, b9, b10, e2⟩ := loop_ k ns hn hs ds (fun d hd => h d (List.mem_cons_of_mem _ hd)) a1 a2 a3 (some (.v (.str v.tx))) a5 (some (.v (.int (i : Nat)))) (some (.v (.int c))) (some (.v (.str q))) (some (.v v.d)) (some (.v (.str v.tx)))
    refine ⟨b4, b6, b7, b8, b9, b10, ?_⟩
    rw [forL_cons]
    cases eg : dnG (.tup (.cons (.s 6) (.cons (.s 7) .nil))) (.tup [.int (i : Nat), .int c]) ⟨[some (.v (scr ns)), a1, a2, a3, a4, a5, a6, a7, a8, a9, a10], hs⟩ with
    | none =>
      rw [eg] at e
      cases e
    | some r =>
      rw [eg] at e
      cases r with
      | exc c s => cases e
      | ok u s =>
        have e' : dnBs ⟨csOf cs, F (k + 4)⟩ lbody s = _ := e
        show loopK (dnBs ⟨csOf cs, F (k + 4)⟩ lbody s) _ = _
        rw [e']
        exact e2
end Lk47

set_option linter.all false
set_option maxRecDepth 100000
set_option maxHeartbeats 16000000
set_option exponentiation.threshold 2000
namespace Lk47
open PySem PySem.Spec PyProof.Rows L2 Mi
def tl2 : Bs := (.cons (.fr (.tup (.cons (.s 6) (.cons (.s 7) .nil))) (.enum (.cons (.sl (.v 0) (.so (.int 2)) (.so (.int 22))) .nil)) lbody) (.cons (.rt (.bl true)) .nil))
def tl1 : Bs := (.cons (.asg (.s 3) (.call 19 2 (.cons (.v 1) (.cons (.v 2) .nil)))) (.cons (.asg (.s 4) (.call 15 2 (.cons (.idx (.v 3) (.int 0)) (.cons (.idx (.v 3) (.int 1)) .nil)))) (.cons (.iff (.or (.cons (.not (.e (.isi "str" (.call 6 1 (.cons (.v 3) .nil))))) (.cons (.cmp .NotEq (.call 6 1 (.cons (.v 3) .nil)) (.v 4)) .nil))) (.cons (.rt (.bl false)) .nil) .nil) (.cons (.iff (.not (.e (.call 20 2 (.cons (.call 7 1 (.cons (.v 4) .nil)) (.cons (.v 3) .nil))))) (.cons (.rt (.bl false)) .nil) .nil) (.cons (.asg (.s 5) (.call 19 2 (.cons (.op .Add (.op .Mult (.op .Mult (.op .Mult (.v 1) (.op .Pow (.int 10) (.int 64))) (.op .Pow (.int 10) (.int 64))) (.op .Pow (.int 10) (.int 64))) (.int 1)) (.cons (.v 2) .nil)))) (.cons (.asg (.s 4) (.call 15 2 (.cons (.idx (.v 5) (.int 0)) (.cons (.idx (.v 5) (.int 1)) .nil)))) (.cons (.iff (.or (.cons (.cmp .NotEq (.call 6 1 (.cons (.v 5) .nil)) (.v 4)) (.cons (.cmp .NotEq (.call 8 1 (.cons (.op .Add (.tup (.cons (.str "number") .nil)) (.v 5)) .nil)) (.v 4)) .nil))) (.cons (.rt (.bl false)) .nil) .nil) (.cons (.iff (.cmp .NotEq (.call 8 1 (.cons (.op .Add (.tup (.cons (.str "part") .nil)) (.v 5)) .nil)) (.op .Add (.v 4) (.str " part"))) (.cons (.rt (.bl false)) .nil) .nil) tl2))))))))
theorem b21_eq : b21 = (.cons (.asg (.s 1) (.op .Mod (.call 10 2 (.cons (.v 0) (.cons (.int 0) .nil))) (.op .Pow (.int 10) (.int 30)))) (.cons (.asg (.s 2) (.op .Add (.int 1) (.op .Mod (.call 10 2 (.cons (.v 0) (.cons (.int 1) .nil))) (.op .Sub (.op .Pow (.int 10) (.int 30)) (.int 1))))) (.cons (.iff (.cmp .Eq (.op .Mod (.call 10 2 (.cons (.v 0) (.cons (.int 1) .nil))) (.int 4)) (.int 2)) (.cons (.asg (.s 1) (.op .Mod (.v 1) (.int 40))) (.cons (.asg (.s 2) (.op .Add (.int 1) (.op .Mod (.op .FloorDiv (.call 10 2 (.cons (.v 0) (.cons (.int 1) .nil))) (.int 4)) (.int 12)))) .nil)) .nil) tl1))) := rfl
theorem enum_in : ∀ (l : List Int) (k : Nat), ∀ d ∈ enumL k (l.map D.int), ∃ (i : Nat) (c : Int), i < k + l.length ∧ d = .tup [.int (i : Nat), .int c]
  | [], _, _, h => by cases h
  | c :: l, k, d, h => by
    rcases List.mem_cons.mp h with rfl | h
    · exact ⟨k, c, by simp, rfl⟩
    · obtain ⟨i, c', h1, e⟩ := enum_in l (k + 1) d h
      exact ⟨i, c', by simp only [List.length_cons]; omega, e⟩
theorem cut_map (ns : List Int) (lo hi : Option Int) : cutL (ns.map D.int) lo hi = (cutL ns lo hi).map D.int := by
  unfold cutL
  rw [List.length_map, List.map_take, List.map_drop]
theorem cut_len (ns : List Int) (lo hi : Option Int) : (cutL ns lo hi).length ≤ ns.length := by
  unfold cutL
  rw [List.length_take, List.length_drop]
  omega
theorem tl2_ (ns : List Int) (hn : ns.length ≤ 63) (hs : HS) (a1 a2 a3 a4 a5 a6 a7 a8 a9 a10 : Option L) : ∃ sl, dnBs ⟨csOf cs, F 11⟩ tl2 ⟨[some (.v (scr ns)), a1, a2, a3, a4, a5, a6, a7, a8, a9, a10], hs⟩ = some (.ok (.rt (.bl true)) ⟨sl, hs⟩) := by
  have hc := cut_len ns (some 2) (some 22)
  obtain ⟨b4, b6, b7, b8, b9, b10, e⟩ := loop_ 7 ns hn hs (enumL 0 ((cutL ns (some 2) (some 22)).map D.int)) (fun d hd => by
    obtain ⟨i, c, h1, h2⟩ := enum_in _ _ d hd
    exact ⟨i, c, by omega, h2⟩) a1 a2 a3 a4 a5 a6 a7 a8 a9 a10
  rw [← cut_map] at e
  have e' : forL (gTupM 2 (gConsM (gSlot 6) (gConsM (gSlot 7) gNilM))) (dnBs ⟨csOf cs, F 11⟩ lbody) (enumL 0 (cutL (ns.map D.int) (some 2) (some 22))) ⟨[some (.v (scr ns)), a1, a2, a3, a4, a5, a6, a7, a8, a9, a10], hs⟩ = _ := e
  have o1 : ∀ d : D, oneL [d] = some d := fun _ => rfl
  refine ⟨[some (.v (scr ns)), a1, a2, a3, b4, a5, b6, b7, b8, b9, b10], ?_⟩
  simp only [tl2, dnBs_q1, dnB_q9, dnBs_q0, dnB_q5]
  simp [o1, e']
theorem lowest_big {t b : Nat} {n : Nat} (ht : t < 10 ^ n) (hb : b < 10 ^ n) (h0 : 0 < b) : t / Nat.gcd t b < 10 ^ n ∧ b / Nat.gcd t b < 10 ^ n ∧ 0 < b / Nat.gcd t b ∧ Nat.gcd (t / Nat.gcd t b) (b / Nat.gcd t b) = 1 := by
  have hg : 0 < Nat.gcd t b := Nat.gcd_pos_of_pos_right _ h0
  refine ⟨Nat.lt_of_le_of_lt (Nat.div_le_self _ _) ht, Nat.lt_of_le_of_lt (Nat.div_le_self _ _) hb, Nat.div_pos (Nat.gcd_le_right _ h0) hg, ?_⟩
  exact Nat.gcd_div_gcd_div_gcd_of_pos_right h0
theorem mulOk_b {i j : Int} {m n : Nat} (h1 : i.natAbs < 2 ^ m) (h2 : j.natAbs < 2 ^ n) (h : m + n ≤ 134217728) : mulOk i j = true := by
  unfold mulOk
  have e1 : Builtin.Int.intBits i ≤ m := intBits_le_iff.mpr h1
  have e2 : Builtin.Int.intBits j ≤ n := intBits_le_iff.mpr h2
  have : Builtin.Int.intBits i + Builtin.Int.intBits j ≤ 134217728 := by omega
  simp [this]
theorem gcd_log {t b n : Nat} (hb : b < 10 ^ 300) (h0 : 0 < b) : (Nat.gcd t b).log2 < 9000 := by
  have h1 : Nat.gcd t b < 2 ^ 1000 := Nat.lt_of_lt_of_le (Nat.lt_of_le_of_lt (Nat.gcd_le_right _ h0) hb) (by decide)
  have := log2_of h1 (by decide)
  omega
theorem ok2 (t b : Int) : okD (.tup [.int t, .int b]) = true := rfl
theorem tl1_ (ns : List Int) (hn : ns.length ≤ 63) (hs : HS) (t b : Nat) (ht : t < 10 ^ 30) (hb : b < 10 ^ 30) (h0 : 0 < b) : ∃ sl, dnBs ⟨csOf cs, F 11⟩ tl1 ⟨[some (.v (scr ns)), some (.v (.int (t : Nat))), some (.v (.int (b : Nat))), none, none, none, none, none, none, none, none], hs⟩ = some (.ok (.rt (.bl true)) ⟨sl, hs⟩) := by
  have f19 := f19_ 9 t b hs h0 (gcd_log (n := 0) (Nat.lt_of_lt_of_le hb (by decide)) h0)
  obtain ⟨l1, l2, l3, l4⟩ := lowest_big ht hb h0
  generalize t / Nat.gcd t b = t1 at f19 l1 l4
  generalize b / Nat.gcd t b = b1 at f19 l2 l3 l4
  have u1 : t1 < 10 ^ 300 := Nat.lt_of_lt_of_le l1 (by decide)
  have u2 : b1 < 10 ^ 300 := Nat.lt_of_lt_of_le l2 (by decide)
  have f15 := f15_ 10 t1 b1 hs u1 u2
  have f6 := f6_ 9 t1 b1 hs u1 u2
  have f7 := f7_ 8 t1 b1 hs l1 l2 l3 l4
  have f20 := f20_ 9 [.int (t1 : Nat), .int (b1 : Nat)] hs (by simp) (by simp) (ok2 _ _)
  have e30 : (10 : Nat) ^ 30 = 1000000000000000000000000000000 := by decide
  obtain ⟨g, hg⟩ : ∃ g, g = t * 10000000000000000000000000000000000000000000000000000000000000000 * 10000000000000000000000000000000000000000000000000000000000000000 * 10000000000000000000000000000000000000000000000000000000000000000 + 1 := ⟨_, rfl⟩
  have eg : (t : Int) * 10000000000000000000000000000000000000000000000000000000000000000 * 10000000000000000000000000000000000000000000000000000000000000000 * 10000000000000000000000000000000000000000000000000000000000000000 + 1 = ((g : Nat) : Int) := by rw [hg]; simp
  have hgb : g < 10 ^ 230 := by
    have h4 : t * 10000000000000000000000000000000000000000000000000000000000000000 * 10000000000000000000000000000000000000000000000000000000000000000 * 10000000000000000000000000000000000000000000000000000000000000000 < 10 ^ 30 * 10000000000000000000000000000000000000000000000000000000000000000 * 10000000000000000000000000000000000000000000000000000000000000000 * 10000000000000000000000000000000000000000000000000000000000000000 := Nat.mul_lt_mul_of_pos_right (Nat.mul_lt_mul_of_pos_right (Nat.mul_lt_mul_of_pos_right ht (by decide)) (by decide)) (by decide)
    have h5 : 10 ^ 30 * 10000000000000000000000000000000000000000000000000000000000000000 * 10000000000000000000000000000000000000000000000000000000000000000 * 10000000000000000000000000000000000000000000000000000000000000000 + 1 ≤ 10 ^ 230 := by decide
    rw [hg]
    exact Nat.lt_of_lt_of_le (Nat.add_lt_add_right h4 1) h5
  have hgB : g < 10 ^ 300 := Nat.lt_of_lt_of_le hgb (by decide)
  have hbB : b < 10 ^ 300 := Nat.lt_of_lt_of_le hb (by decide)
  have g19 := f19_ 9 g b hs h0 (gcd_log (n := 0) hbB h0)
  obtain ⟨m1, m2, m3, m4⟩ := lowest_big hgB hbB h0
  generalize g / Nat.gcd g b = t2 at g19 m1 m4
  generalize b / Nat.gcd g b = b2 at g19 m2 m3 m4
  have g15 := f15_ 10 t2 b2 hs m1 m2
  have g6 := f6_ 9 t2 b2 hs m1 m2
  have g8 := f8_ 9 (.num t2 b2) hs ⟨m1, m2, m3⟩
  have g8p := f8_ 9 (.part t2 b2) hs ⟨m1, m2, m3⟩
  have k1 : mulOk (t : Int) 10000000000000000000000000000000000000000000000000000000000000000 = true := mulOk_b (m := 500) (n := 500) (by rw [Int.natAbs_natCast]; exact Nat.lt_of_lt_of_le ht (by decide)) (by decide) (by decide)
  have k2 : mulOk ((t : Int) * 10000000000000000000000000000000000000000000000000000000000000000) 10000000000000000000000000000000000000000000000000000000000000000 = true := mulOk_b (m := 1000) (n := 500) (by
    have : ((t : Int) * 10000000000000000000000000000000000000000000000000000000000000000).natAbs = t * 10000000000000000000000000000000000000000000000000000000000000000 := by rw [Int.natAbs_mul, Int.natAbs_natCast]; rfl
    rw [this]
    exact Nat.lt_of_lt_of_le (Nat.mul_lt_mul_of_pos_right ht (by decide)) (by decide)) (by decide) (by decide)
  have k3 : mulOk ((t : Int) * 10000000000000000000000000000000000000000000000000000000000000000 * 10000000000000000000000000000000000000000000000000000000000000000) 10000000000000000000000000000000000000000000000000000000000000000 = true := mulOk_b (m := 1000) (n := 500) (by
    have : ((t : Int) * 10000000000000000000000000000000000000000000000000000000000000000 * 10000000000000000000000000000000000000000000000000000000000000000).natAbs = t * 10000000000000000000000000000000000000000000000000000000000000000 * 10000000000000000000000000000000000000000000000000000000000000000 := by rw [Int.natAbs_mul, Int.natAbs_mul, Int.natAbs_natCast]; rfl
    rw [this]
    exact Nat.lt_of_lt_of_le (Nat.mul_lt_mul_of_pos_right (Nat.mul_lt_mul_of_pos_right ht (by decide)) (by decide)) (by decide)) (by decide) (by decide)
  obtain ⟨sl, e2⟩ := tl2_ ns hn hs (some (.v (.int (t : Nat)))) (some (.v (.int (b : Nat)))) (some (.v (.tup [.int (t1 : Nat), .int (b1 : Nat)]))) (some (.v (.str (sh t2 b2)))) (some (.v (.tup [.int (t2 : Nat), .int (b2 : Nat)]))) none none none none none
  refine ⟨sl, ?_⟩
  have ep : (sh t2 b2 ++ Str.ofString " ") ++ Str.ofString "part" = sh t2 b2 ++ Str.ofString " part" := by
    apply TL.ext_tl
    simp only [TL.tl_append, List.append_assoc]
    congr 1
  have hl := sh_lenB m1 m2
  have l5 : (Str.ofString " part").length = 5 := by decide +kernel
  have k5 : lenOk ((sh t2 b2).length + 5) = true := lenOk_le (m := 1000) (by omega) (by decide)
  simp only [Vl.d, Vl.tx] at g8 g8p
  rw [ep] at g8p
  simp only [tl1, dnBs_q1, dnB_q1, dnB_q7, dnBs_q0, dnB_q5]
  simp [f19, f15, f6, f7, f20, eg, g19, g15, g6, g8, g8p, k1, k2, k3, fNe_s, l5, len_add, k5, e2]
theorem law_true : ∀ ns : List Int, ns.length ≤ 63 → ∃ s, FK (csOf cs) dfs 12 21 [.lst (ns.map D.int)] [] = some (.ok (.bl true) s) := by
  intro ns hn
  show ∃ s, F (11 + 1) 21 [scr ns] [] = _
  rw [F_of (d := d21) rfl, fnR_ap]
  have c0 : F 11 10 [scr ns, .int 0] [] = some (.ok (.int (ns.getD 0 0)) ⟨[], []⟩) := f10_ 10 ns 0 [] hn
  have c1 : F 11 10 [scr ns, .int 1] [] = some (.ok (.int (ns.getD 1 0)) ⟨[], []⟩) := f10_ 10 ns 1 [] hn
  generalize ns.getD 0 0 = x at c0
  generalize ns.getD 1 0 = y at c1
  have e30 : (10 : Nat) ^ 30 = 1000000000000000000000000000000 := by decide
  have dk30 : divOk 1000000000000000000000000000000 = true := by decide +kernel
  have dk29 : divOk 999999999999999999999999999999 = true := by decide +kernel
  have dk40 : divOk 40 = true := by decide +kernel
  have dk12 : divOk 12 = true := by decide +kernel
  by_cases h : y % 4 = 2
  · obtain ⟨t, et⟩ : ∃ t : Nat, x % 1000000000000000000000000000000 % 40 = (t : Nat) := ⟨(x % 1000000000000000000000000000000 % 40).toNat, by omega⟩
    obtain ⟨b, eb⟩ : ∃ b : Nat, 1 + y / 4 % 12 = (b : Nat) := ⟨(1 + y / 4 % 12).toNat, by omega⟩
    obtain ⟨sl, e⟩ := tl1_ ns hn [] t b (by omega) (by omega) (by omega)
    refine ⟨⟨[], []⟩, ?_⟩
    rw [show d21.body = b21 from rfl, b21_eq]
    simp only [dnBs_q1, dnB_q1, dnB_q7, dnBs_q0]
    simp [d21, start0, c0, c1, fmodP, fdivP, h, et, eb, dk4, dk30, dk29, dk40, dk12, e]
  · obtain ⟨t, et⟩ : ∃ t : Nat, x % 1000000000000000000000000000000 = (t : Nat) := ⟨(x % 1000000000000000000000000000000).toNat, by omega⟩
    obtain ⟨b, eb⟩ : ∃ b : Nat, 1 + y % 999999999999999999999999999999 = (b : Nat) := ⟨(1 + y % 999999999999999999999999999999).toNat, by omega⟩
    obtain ⟨sl, e⟩ := tl1_ ns hn [] t b (by omega) (by omega) (by omega)
    refine ⟨⟨[], []⟩, ?_⟩
    rw [show d21.body = b21 from rfl, b21_eq]
    simp only [dnBs_q1, dnB_q1, dnB_q7, dnBs_q0]
    simp [d21, start0, c0, c1, fmodP, fdivP, h, et, eb, dk4, dk30, dk29, e]
end Lk47

open PySem PySem.W PySem.Calls PyProof.Rows
theorem PySem.Challenge.cw_stylehouse_k47_values_written_holds : PySem.Challenge.rw_stylehouse_k47_values_written.Holds := by
  w_on; o_law
  refine HandSHeadRun.head_any (r := OpenLaw.row PySem.Challenge.rw_stylehouse_k47_values_written) (q := view (OpenLaw.row PySem.Challenge.rw_stylehouse_k47_values_written).prog [32]) (H := Lk47.hk) (ob := Lk47.ob) (M := 400000) (loose := Lk47.names)
    (d := HandSHeadRun.topDef (OpenLaw.row PySem.Challenge.rw_stylehouse_k47_values_written).prog 32) (kwd := []) Lk47.ob_eq
    (by kernel_rfl) (fun s => by kernel_rfl) Lk47.run (by kernel_rfl) (by kernel_rfl) (by kernel_rfl) (by rfl) (by first | assumption | decide +kernel) (by decide +kernel)
    ⟨rfl, rfl, rfl, rfl, rfl, by decide +kernel⟩ ?hw ?hc
  case hw => w_witness2
  case hc =>
    refine L2.walk_ofE (l := PySem.Challenge.rw_stylehouse_k47_values_written) (n := 63) (k := 12) (x := "_law_script") (CX := Mi.CXA (PySem.Challenge.rw_stylehouse_k47_values_written).prog) rfl (by decide) (by kernel_rfl) ⟨rfl, by decide, by decide⟩ ?F Mi.cxa_no
    case F =>
      intro w mg fa h Y G hmg0
      obtain ⟨K, KX, c⟩ := Y
      have hmg : mg ("law" : PySem.Str) = some (.ref fa) := by
        have e : (HandSHeadRun.topDef (OpenLaw.row PySem.Challenge.rw_stylehouse_k47_values_written).prog 32).name = ("law" : PySem.Str) := by kernel_rfl
        rw [← e]
        exact hmg0
      exact Mi.law_told (d := Lk47.d21) (e := Lk47.e21) (i := 21) KX G c (by decide +kernel) Lk47.all rfl rfl hmg rfl rfl Lk47.law_true
  