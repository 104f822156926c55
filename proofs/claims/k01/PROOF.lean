import PyProof.Rows.All
import Wide.All
import OpenK.AllK
import Wide.FinOn
import HandS.ForMost
import HandS.Exc
import HandS.WordsExc
import HandS.IsInst
import HandS.Flow
import HandS.TupAny
import HandS.Zip
import HandS.Defaults
import HandS.Replace
import HandS.StrMore
import HandS.Head0
import HandS.Head1
import HandS.Head2
import HandS.HeadEnd
import HandS.HeadHook1
import HandS.HeadHook2
import PySem.Challenge.RW_highestsky_k01_words_judged
set_option Elab.async false
set_option linter.all false
set_option maxRecDepth 100000
set_option maxHeartbeats 0
/-! The data layer, part a: data without addresses, an owned store, and readings over both. -/
namespace DL
open PySem L2

inductive D where
  | non | bl (b : Bool) | int (i : Int) | str (s : Str)
  | lst (xs : List D) | tup (xs : List D)
  | dct (kvs : List (D × D))
  | obj (C : Addr) (fs : List (Str × D))
  | ref (a : Addr) | ty (n : String)
  | scr (ns : List Int)

/-- what is owned (may still be changed) -/
inductive MO where
  | lst (xs : List D)
  | bag
  | dK (kvs : List (Key × D))
  | dT (kvs : List (List Key × D))
  | ins (C : Addr) (fs : List (Str × D))
abbrev Mu := Addr → Option MO
/-- a world: what is hidden (it stands as it is), what is owned, the heap -/
structure Wd where
  hd : Hp
  M : Mu
  H : Hp
def Fr (w : Wd) (a : Addr) : Prop := w.M a = none ∧ w.hd a = none
def keyD : Key → D
  | .inl i => .int i
  | .inr x => .str x
def tkeyD (ks : List Key) : D := .tup (ks.map keyD)

/-- a list, a tuple that is not owned -/
def LsAt (w : Wd) (a : Addr) (xs : List V) : Prop := Fr w a ∧ w.H a = some (.lst xs)
def TuAt (K : PySem.W.Frag) (w : Wd) (a : Addr) (xs : List V) : Prop := (Fr w a ∧ w.H a = some (.tup xs)) ∨ ∀ H', SqT K H' a xs
/-- the script: a list that is read alone -/
def ScAt (K : PySem.W.Frag) (w : Wd) (a : Addr) (xs : List V) : Prop := (Fr w a ∧ Rd w.H a (.lst xs)) ∨ ∀ H', SqL K H' a xs
/-- a dict, locked or not -/
def unl : HO → HO
  | .frz _ (.dK k) => .dK k
  | .frz _ (.dT k) => .dT k
  | u => u
theorem unl_lst {u : HO} {xs : List V} (h : unl u = .lst xs) : u = .lst xs := by
  unfold unl at h
  split at h <;> first | exact h | cases h
theorem unl_frz {u : HO} {o : Obj} {xs : List V} (h : unl u = .frz o (.lst xs)) : u = .frz o (.lst xs) := by
  unfold unl at h
  split at h <;> first | exact h | cases h
theorem unl_tup {u : HO} {xs : List V} (h : unl u = .tup xs) : u = .tup xs := by
  unfold unl at h
  split at h <;> first | exact h | cases h
theorem unl_ins {u : HO} {C dx : Addr} {xs : List (Str × V)} (h : unl u = .ins C dx xs) : u = .ins C dx xs := by
  unfold unl at h
  split at h <;> first | exact h | cases h
/-- at a stands this, locked or not -/
def Sd (H : Hp) (a : Addr) (u : HO) : Prop := ∃ u', H a = some u' ∧ unl u' = u

/-! data that stands in the heap, in nothing that is owned -/
mutual
def Rp (K : PySem.W.Frag) (w : Wd) : D → V → Prop
  | .non, v => v = .non
  | .bl b, v => v = .bl b
  | .int i, v => v = .int i
  | .str x, v => v = .str x
  | .ref a, v => v = .ref a
  | .ty n, v => v = .ty n
  | .scr ns, v => ∃ a, v = .ref a ∧ ScAt K w a (ns.map V.int)
  | .lst ds, v => ∃ a xs, v = .ref a ∧ LsAt w a xs ∧ RpL K w ds xs
  | .tup ds, v => ∃ a xs, v = .ref a ∧ TuAt K w a xs ∧ RpL K w ds xs
  | .dct kvs, v => ∃ a, v = .ref a ∧ Fr w a ∧ ((∃ ks, Sd w.H a (.dK ks) ∧ RpK K w kvs (ks.map fun p => (keyD p.1, p.2))) ∨ (∃ ks, Sd w.H a (.dT ks) ∧ RpK K w kvs (ks.map fun p => (tkeyD p.1, p.2))))
  | .obj C fs, v => ∃ a dx vs, v = .ref a ∧ Fr w a ∧ w.H a = some (.ins C dx vs) ∧ RpF K w fs vs
def RpL (K : PySem.W.Frag) (w : Wd) : List D → List V → Prop
  | [], vs => vs = []
  | d :: ds, vs => ∃ x r, vs = x :: r ∧ Rp K w d x ∧ RpL K w ds r
def RpK (K : PySem.W.Frag) (w : Wd) : List (D × D) → List (D × V) → Prop
  | [], vs => vs = []
  | (k, d) :: ds, vs => ∃ x r, vs = (k, x) :: r ∧ Rp K w d x ∧ RpK K w ds r
def RpF (K : PySem.W.Frag) (w : Wd) : List (Str × D) → List (Str × V) → Prop
  | [], vs => vs = []
  | (k, d) :: ds, vs => ∃ x r, vs = (k, x) :: r ∧ Rp K w d x ∧ RpF K w ds r
end
/-- what is free stands as it stood (but for a dict's lock), and is free -/
def Kp (w w' : Wd) : Prop := ∀ a u, Fr w a → w.H a = some u → Fr w' a ∧ Sd w'.H a (unl u)
theorem Kp.refl (w : Wd) : Kp w w := fun _ u h r => ⟨h, u, r, rfl⟩
theorem Kp.trans {w w1 w2 : Wd} (a : Kp w w1) (b : Kp w1 w2) : Kp w w2 := fun x u h r => by
  obtain ⟨h1, u1, r1, e1⟩ := a x u h r
  obtain ⟨h2, u2, r2, e2⟩ := b x u1 h1 r1
  exact ⟨h2, u2, r2, e2.trans e1⟩
/-- all that is tracked and free stays -/
theorem Kp.of {w w' : Wd} (h : ∀ a u, Fr w a → w.H a = some u → Fr w' a ∧ w'.H a = some u) : Kp w w' := fun a u hm e => ⟨(h a u hm e).1, u, (h a u hm e).2, rfl⟩
section
variable {w w' : Wd} {a C dx : Addr}
theorem Kp.lst {xs : List V} (k : Kp w w') (h : LsAt w a xs) : LsAt w' a xs := by
  obtain ⟨h1, u, e, q⟩ := k a _ h.1 h.2
  exact ⟨h1, by rw [e, unl_lst q]⟩
theorem Kp.tup {K : PySem.W.Frag} {xs : List V} (k : Kp w w') (h : TuAt K w a xs) : TuAt K w' a xs := by
  rcases h with h | h
  · obtain ⟨h1, u, e, q⟩ := k a _ h.1 h.2
    exact .inl ⟨h1, by rw [e, unl_tup q]⟩
  · exact .inr h
theorem Kp.scr {K : PySem.W.Frag} {xs : List V} (k : Kp w w') (h : ScAt K w a xs) : ScAt K w' a xs := by
  rcases h with ⟨h0, h | ⟨o, h⟩⟩ | h
  · obtain ⟨h1, u, e, q⟩ := k a _ h0 h
    exact .inl ⟨h1, .inl (by rw [e, unl_lst q])⟩
  · obtain ⟨h1, u, e, q⟩ := k a _ h0 h
    exact .inl ⟨h1, .inr ⟨o, by rw [e, unl_frz q]⟩⟩
  · exact .inr h
theorem Kp.sd {u : HO} (k : Kp w w') (hm : Fr w a) (h : Sd w.H a u) : Fr w' a ∧ Sd w'.H a u := by
  obtain ⟨u1, e, rfl⟩ := h
  obtain ⟨h1, u2, e2, q⟩ := k a _ hm e
  exact ⟨h1, u2, e2, q⟩
theorem Kp.ins {xs : List (Str × V)} (k : Kp w w') (hm : Fr w a) (h : w.H a = some (.ins C dx xs)) : Fr w' a ∧ w'.H a = some (.ins C dx xs) := by
  obtain ⟨h1, u2, e2, q⟩ := k a _ hm h
  exact ⟨h1, by rw [e2, unl_ins q]⟩
end
/-- the heap alone, otherwise -/
abbrev Wd.at (w : Wd) (H : Hp) : Wd := { w with H := H }
/-- a new object that is free -/
theorem Kp.new {w : Wd} {p : Addr} {o : HO} (h : w.H p = none) : Kp w (w.at (upd w.H p o)) := Kp.of fun a u hm e => ⟨hm, by show upd w.H p o a = _; rw [upd_ne (ne_of_none e h)]; exact e⟩
theorem Kp.ex {w : Wd} {H' : Hp} (h : ∀ a u, w.H a = some u → H' a = some u) : Kp w (w.at H') := Kp.of fun a u hm e => ⟨hm, h a u e⟩

mutual
theorem Rp.mono {K : PySem.W.Frag} {w w' : Wd} (k : Kp w w') : ∀ {d : D} {v : V}, Rp K w d v → Rp K w' d v
  | .non, _, h => h
  | .bl _, _, h => h
  | .int _, _, h => h
  | .str _, _, h => h
  | .ref _, _, h => h
  | .ty _, _, h => h
  | .scr ns, v, h => by
    obtain ⟨a, rfl, h1⟩ := h
    exact ⟨a, rfl, k.scr h1⟩
  | .lst ds, v, h => by
    obtain ⟨a, xs, rfl, hl, hr⟩ := h
    exact ⟨a, xs, rfl, k.lst hl, RpL.mono k hr⟩
  | .tup ds, v, h => by
    obtain ⟨a, xs, rfl, hl, hr⟩ := h
    exact ⟨a, xs, rfl, k.tup hl, RpL.mono k hr⟩
  | .dct kvs, v, h => by
    obtain ⟨a, rfl, hm, hl⟩ := h
    rcases hl with ⟨ks, h1, h2⟩ | ⟨ks, h1, h2⟩
    · exact ⟨a, rfl, (k.sd hm h1).1, .inl ⟨ks, (k.sd hm h1).2, RpK.mono k h2⟩⟩
    · exact ⟨a, rfl, (k.sd hm h1).1, .inr ⟨ks, (k.sd hm h1).2, RpK.mono k h2⟩⟩
  | .obj C fs, v, h => by
    obtain ⟨a, dx, vs, rfl, hm, h1, h2⟩ := h
    exact ⟨a, dx, vs, rfl, (k.ins hm h1).1, (k.ins hm h1).2, RpF.mono k h2⟩
theorem RpL.mono {K : PySem.W.Frag} {w w' : Wd} (k : Kp w w') : ∀ {ds : List D} {vs : List V}, RpL K w ds vs → RpL K w' ds vs
  | [], _, h => h
  | d :: ds, vs, h => by
    obtain ⟨x, r, rfl, h1, h2⟩ := h
    exact ⟨x, r, rfl, Rp.mono k h1, RpL.mono k h2⟩
theorem RpK.mono {K : PySem.W.Frag} {w w' : Wd} (k : Kp w w') : ∀ {ds : List (D × D)} {vs : List (D × V)}, RpK K w ds vs → RpK K w' ds vs
  | [], _, h => h
  | (q, d) :: ds, vs, h => by
    obtain ⟨x, r, rfl, h1, h2⟩ := h
    exact ⟨x, r, rfl, Rp.mono k h1, RpK.mono k h2⟩
theorem RpF.mono {K : PySem.W.Frag} {w w' : Wd} (k : Kp w w') : ∀ {ds : List (Str × D)} {vs : List (Str × V)}, RpF K w ds vs → RpF K w' ds vs
  | [], _, h => h
  | (q, d) :: ds, vs, h => by
    obtain ⟨x, r, rfl, h1, h2⟩ := h
    exact ⟨x, r, rfl, Rp.mono k h1, RpF.mono k h2⟩
end
section
variable {K : PySem.W.Frag} {w w' : Wd}
theorem RpL.length : ∀ {ds : List D} {vs : List V}, RpL K w ds vs → vs.length = ds.length
  | [], vs, h => by obtain rfl : vs = [] := h; rfl
  | d :: ds, vs, h => by
    obtain ⟨x, r, rfl, _, h2⟩ := h
    rw [List.length_cons, List.length_cons, RpL.length h2]
theorem RpL.get : ∀ {ds : List D} {vs : List V} {i : Nat} {v : V}, RpL K w ds vs → vs[i]? = some v → ∃ d, ds[i]? = some d ∧ Rp K w d v
  | [], vs, i, v, h, e => by obtain rfl : vs = [] := h; simp at e
  | d :: ds, vs, 0, v, h, e => by
    obtain ⟨x, r, rfl, h1, _⟩ := h
    obtain rfl : x = v := by simpa using e
    exact ⟨d, rfl, h1⟩
  | d :: ds, vs, i + 1, v, h, e => by
    obtain ⟨x, r, rfl, _, h2⟩ := h
    exact RpL.get (i := i) h2 (by simpa using e)
theorem RpL.at : ∀ {ds : List D} {vs : List V} {i : Nat} {d : D}, RpL K w ds vs → ds[i]? = some d → ∃ v, vs[i]? = some v ∧ Rp K w d v
  | [], vs, i, d, h, e => by simp at e
  | d :: ds, vs, 0, d', h, e => by
    obtain ⟨x, r, rfl, h1, _⟩ := h
    obtain rfl : d = d' := by simpa using e
    exact ⟨x, rfl, h1⟩
  | d :: ds, vs, i + 1, d', h, e => by
    obtain ⟨x, r, rfl, _, h2⟩ := h
    exact RpL.at (i := i) h2 (by simpa using e)
theorem RpL.append : ∀ {ds es : List D} {vs ws : List V}, RpL K w ds vs → RpL K w es ws → RpL K w (ds ++ es) (vs ++ ws)
  | [], es, vs, ws, h, g => by obtain rfl : vs = [] := h; exact g
  | d :: ds, es, vs, ws, h, g => by
    obtain ⟨x, r, rfl, h1, h2⟩ := h
    exact ⟨x, r ++ ws, rfl, h1, RpL.append h2 g⟩
theorem RpL.take : ∀ {ds : List D} {vs : List V} (n : Nat), RpL K w ds vs → RpL K w (ds.take n) (vs.take n)
  | ds, vs, 0, h => by rw [List.take_zero, List.take_zero]; rfl
  | [], vs, n + 1, h => by obtain rfl : vs = [] := h; exact rfl
  | d :: ds, vs, n + 1, h => by
    obtain ⟨x, r, rfl, h1, h2⟩ := h
    exact ⟨x, r.take n, rfl, h1, RpL.take n h2⟩
theorem RpL.drop : ∀ {ds : List D} {vs : List V} (n : Nat), RpL K w ds vs → RpL K w (ds.drop n) (vs.drop n)
  | ds, vs, 0, h => h
  | [], vs, n + 1, h => by obtain rfl : vs = [] := h; exact rfl
  | d :: ds, vs, n + 1, h => by
    obtain ⟨x, r, rfl, h1, h2⟩ := h
    exact RpL.drop n h2
theorem RpL.one {d : D} {v : V} (h : Rp K w d v) : RpL K w [d] [v] := ⟨v, [], rfl, h, rfl⟩
theorem LsAt.sq {a : Addr} {xs : List V} (h : LsAt w a xs) : SqL K w.H a xs := .inl (.inl h.2)
theorem TuAt.sq {a : Addr} {xs : List V} (h : TuAt K w a xs) : SqT K w.H a xs := h.elim (fun z => .inl (.inl z.2)) fun z => z w.H
theorem LsAt.mono {a : Addr} {xs : List V} (k : Kp w w') (h : LsAt w a xs) : LsAt w' a xs := k.lst h
theorem TuAt.mono {a : Addr} {xs : List V} (k : Kp w w') (h : TuAt K w a xs) : TuAt K w' a xs := k.tup h
end

/-! ### the owned store -/
/-- a law's bag: the cells, how many were taken, the rest of a great cell, a mixed number -/
def BagAt (w : Wd) (a : Addr) : Prop := ∃ (c : Addr) (cs : List Int) (i r m : Int), w.H a = some (.lst [.ref c, .int i, .int r, .int m]) ∧ LsAt w c (cs.map V.int) ∧ cs.length ≤ 63 ∧ 0 ≤ i
def MOk (K : PySem.W.Frag) (w : Wd) (a : Addr) : MO → Prop
  | .lst ds => ∃ xs, w.H a = some (.lst xs) ∧ RpL K w ds xs
  | .bag => BagAt w a
  | .dK kvs => ∃ ks, w.H a = some (.dK ks) ∧ RpK K w (kvs.map fun p => (keyD p.1, p.2)) (ks.map fun p => (keyD p.1, p.2)) ∧ ks.map (·.1) = kvs.map (·.1)
  | .dT kvs => ∃ ks, w.H a = some (.dT ks) ∧ RpK K w (kvs.map fun p => (tkeyD p.1, p.2)) (ks.map fun p => (tkeyD p.1, p.2)) ∧ ks.map (·.1) = kvs.map (·.1)
  | .ins C fs => ∃ dx vs, w.H a = some (.ins C dx vs) ∧ RpF K w fs vs
structure Ok (K : PySem.W.Frag) (w : Wd) : Prop where
  mo : ∀ a m, w.M a = some m → MOk K w a m
  hid : ∀ a u, w.hd a = some u → w.H a = some u
  ap : ∀ a m, w.M a = some m → w.hd a = none
theorem MOk.mono {K : PySem.W.Frag} {w w' : Wd} {a : Addr} {m : MO} (k : Kp w w') (e : w'.H a = w.H a) (h : MOk K w a m) : MOk K w' a m := by
  cases m with
  | lst ds => obtain ⟨xs, h1, h2⟩ := h; exact ⟨xs, e.trans h1, RpL.mono k h2⟩
  | bag => obtain ⟨c, cs, i, r, m, h1, h2, h3⟩ := h; exact ⟨c, cs, i, r, m, e.trans h1, h2.mono k, h3⟩
  | dK kvs => obtain ⟨xs, h1, h2, h3⟩ := h; exact ⟨xs, e.trans h1, RpK.mono k h2, h3⟩
  | dT kvs => obtain ⟨xs, h1, h2, h3⟩ := h; exact ⟨xs, e.trans h1, RpK.mono k h2, h3⟩
  | ins C fs => obtain ⟨dx, vs, h1, h2⟩ := h; exact ⟨dx, vs, e.trans h1, RpF.mono k h2⟩
theorem Ok.tracked {K : PySem.W.Frag} {w : Wd} {a : Addr} {m : MO} (o : Ok K w) (h : w.M a = some m) : ∃ u, w.H a = some u := by
  have z := o.mo a m h
  cases m with
  | lst ds => obtain ⟨xs, h1, _⟩ := z; exact ⟨_, h1⟩
  | bag => obtain ⟨_, _, _, _, _, h1, _⟩ := z; exact ⟨_, h1⟩
  | dK kvs => obtain ⟨_, h1, _⟩ := z; exact ⟨_, h1⟩
  | dT kvs => obtain ⟨_, h1, _⟩ := z; exact ⟨_, h1⟩
  | ins C fs => obtain ⟨_, _, h1, _⟩ := z; exact ⟨_, h1⟩
/-- a new object is free -/
theorem Ok.fresh {K : PySem.W.Frag} {w : Wd} {p : Addr} (o : Ok K w) (h : w.H p = none) : Fr w p := by
  constructor
  · cases e : w.M p with
    | none => rfl
    | some m =>
      obtain ⟨u, q⟩ := o.tracked e
      rw [h] at q; cases q
  · cases e : w.hd p with
    | none => rfl
    | some m =>
      have q := o.hid p m e
      rw [h] at q; cases q
theorem Ok.keep {K : PySem.W.Frag} {w : Wd} {H' : Hp} (o : Ok K w) (h : ∀ a u, w.H a = some u → H' a = some u) : Ok K (w.at H') where
  mo := fun a m e => by
    obtain ⟨u, q⟩ := o.tracked e
    exact (o.mo a m e).mono (Kp.ex h) (by show H' a = _; rw [h a u q, q])
  hid := fun a u e => h a u (o.hid a u e)
  ap := o.ap
theorem Ok.new {K : PySem.W.Frag} {w : Wd} {p : Addr} {o : HO} (k : Ok K w) (h : w.H p = none) : Ok K (w.at (upd w.H p o)) := k.keep fun a u e => by
  rw [upd_ne (ne_of_none e h)]; exact e
end DL
/-! The data layer, part b: readings over data, expressions. -/
namespace DL
open PySem L2

abbrev DEnv := List (Option D)
abbrev DK := D → Mu → Prop
abbrev DE := DEnv → Mu → DK → Prop
abbrev DT := DEnv → Mu → (Bool → Mu → Prop) → Prop
abbrev DA := DEnv → Mu → (List D → Mu → Prop) → Prop
def RE (K : PySem.W.Frag) (w : Wd) (ρ : DEnv) (σ : St) : Prop := σ.length = ρ.length ∧ ∀ (i : Nat) (d : D), ρ[i]? = some (some d) → ∃ v, σ[i]? = some (some v) ∧ Rp K w d v
/-- c: the entry of the def -/
structure At (K : PySem.W.Frag) (c w : Wd) (ρ : DEnv) (σ : St) : Prop where
  kp : Kp c w
  re : RE K w ρ σ
  ok : Ok K w
/-- what is behind: what stood is kept -/
structure Bh (K : PySem.W.Frag) (w w' : Wd) : Prop where
  kp : Kp w w'
  ok : Ok K w'
  hd : w'.hd = w.hd
section
variable {K : PySem.W.Frag} {c w w' w'' : Wd} {ρ : DEnv} {σ : St}
theorem RE.mono (k : Kp w w') (r : RE K w ρ σ) : RE K w' ρ σ := ⟨r.1, fun i d e => let ⟨v, a, b⟩ := r.2 i d e; ⟨v, a, b.mono k⟩⟩
theorem RE.set {i : Nat} {d : D} {v : V} (r : RE K w ρ σ) (h : Rp K w d v) : RE K w (ρ.set i (some d)) (σ.set i (some v)) := by
  refine ⟨by rw [List.length_set, List.length_set]; exact r.1, fun j e q => ?_⟩
  by_cases hj : i = j
  · subst hj
    have hl : i < ρ.length := by
      have := (List.getElem?_eq_some_iff.mp q).1
      rwa [List.length_set] at this
    rw [List.getElem?_set_self hl] at q
    obtain rfl : d = e := by simpa using q
    exact ⟨v, by rw [List.getElem?_set_self (by rw [r.1]; exact hl)], h⟩
  · rw [List.getElem?_set_ne hj] at q
    obtain ⟨w, a, b⟩ := r.2 j e q
    exact ⟨w, by rw [List.getElem?_set_ne hj]; exact a, b⟩
theorem Bh.refl (o : Ok K w) : Bh K w w := ⟨Kp.refl w, o, rfl⟩
theorem Bh.trans (a : Bh K w w') (b : Bh K w' w'') : Bh K w w'' := ⟨a.kp.trans b.kp, b.ok, b.hd.trans a.hd⟩
theorem Bh.new {p : Addr} {o : HO} (k : Ok K w) (h : w.H p = none) : Bh K w (w.at (upd w.H p o)) := ⟨Kp.new h, k.new h, rfl⟩
theorem At.next (a : At K c w ρ σ) (b : Bh K w w') : At K c w' ρ σ := ⟨a.kp.trans b.kp, a.re.mono b.kp, b.ok⟩
theorem At.set {i : Nat} {d : D} {v : V} (a : At K c w ρ σ) (h : Rp K w d v) : At K c w (ρ.set i (some d)) (σ.set i (some v)) := ⟨a.kp, a.re.set h, a.ok⟩
end
/-- what is wanted of values, from what is wanted of data -/
def Wv (K : PySem.W.Frag) (w : Wd) (Q' : DK) (Q : VK) : Prop := ∀ d w' v, Q' d w'.M → Bh K w w' → Rp K w' d v → Q v w'.H
section
variable {K : PySem.W.Frag} {w w1 : Wd} {Q' : DK} {Q : VK}
theorem Wv.back (k : Wv K w Q' Q) (b : Bh K w w1) : Wv K w1 Q' Q := fun d w' v q b' r => k d w' v q (b.trans b') r
theorem Wv.here {d : D} {v : V} (k : Wv K w Q' Q) (o : Ok K w) (q : Q' d w.M) (r : Rp K w d v) : Q v w.H := k d w v q (Bh.refl o) r
/-- a new object -/
theorem Wv.new {d : D} {p : Addr} {o : HO} (k : Wv K w Q' Q) (ok : Ok K w) (h : w.H p = none) (q : Q' d w.M) (r : Rp K (w.at (upd w.H p o)) d (.ref p)) : Q (.ref p) (upd w.H p o) := k d (w.at (upd w.H p o)) (.ref p) q (Bh.new ok h) r
end
def lift (K : PySem.W.Frag) (c : Wd) (t : DE) : TE := fun σ H Q => ∃ ρ w Q', w.H = H ∧ At K c w ρ σ ∧ t ρ w.M Q' ∧ Wv K w Q' Q
def liftT (K : PySem.W.Frag) (c : Wd) (t : DT) : TT := fun σ H Q => ∃ ρ w Q', w.H = H ∧ At K c w ρ σ ∧ t ρ w.M Q' ∧ ∀ b w', Q' b w'.M → Bh K w w' → Q b w'.H
def liftA (K : PySem.W.Frag) (c : Wd) (t : DA) : TA := fun σ H Q => ∃ ρ w Q', w.H = H ∧ At K c w ρ σ ∧ t ρ w.M Q' ∧ ∀ ds w' vs, Q' ds w'.M → Bh K w w' → RpL K w' ds vs → Q vs w'.H
abbrev PD (c : Wd) (X : Cx) (e : Expr) (t : DE) : Prop := PE X e (lift X.K c t)
abbrev PDT (c : Wd) (X : Cx) (e : Expr) (t : DT) : Prop := PT X e (liftT X.K c t)
abbrev PDW (c : Wd) (X : Cx) (e : Expr) (t : DT) : Prop := PW X e (liftT X.K c t)
abbrev PDA (c : Wd) (X : Cx) (es : List Expr) (t : DA) : Prop := PA X es (liftA X.K c t)
theorem PE_imp {X : Cx} {e : Expr} {t t' : TE} (h : PE X e t) (i : ∀ σ H Q, t' σ H Q → t σ H Q) : PE X e t' := ⟨fun pins s σ H Q I q => h.run pins s σ H Q I (i σ H Q q)⟩
theorem PT_imp {X : Cx} {e : Expr} {t t' : TT} (h : PT X e t) (i : ∀ σ H Q, t' σ H Q → t σ H Q) : PT X e t' := ⟨fun pins s σ H Q I q => h.run pins s σ H Q I (i σ H Q q)⟩
theorem PW_imp {X : Cx} {e : Expr} {t t' : TT} (h : PW X e t) (i : ∀ σ H Q, t' σ H Q → t σ H Q) : PW X e t' := ⟨fun wh pins s σ H Q I q => h.run wh pins s σ H Q I (i σ H Q q)⟩
theorem PA_imp {X : Cx} {es : List Expr} {t t' : TA} (h : PA X es t) (i : ∀ σ H Q, t' σ H Q → t σ H Q) : PA X es t' := ⟨fun pos pins s σ H Q I q => h.run pos pins s σ H Q I (i σ H Q q)⟩

/-! ### names, constants -/
@[simp] def dVar (i : Nat) : DE := fun ρ M Q => match ρ[i]? with | some (some d) => Q d M | _ => False
@[simp] def dC (d : D) : DE := fun _ M Q => Q d M
section
variable {X : Cx} {c : Wd}
theorem pd_var (i : Nat) {x : Str} {pos : Pos} (hN : X.N[i]? = some x := by rfl) (hv : Vis X.env.scope x := by first | exact Or.inl rfl | exact Or.inr (Or.inl rfl) | exact Or.inr (Or.inr rfl)) (hd : (x == ("__debug__" : Str)) = false := by decide)
    (hcd : (x == ("__classdict__" : Str)) = false := by decide) : PD c X (.Name x pos) (dVar i) := PE_imp (pe_var hN hv hd hcd) fun σ H Q ⟨ρ, w, Q', hH, a, h, k⟩ => by
  subst hH
  unfold dVar at h
  cases e : ρ[i]? with
  | none => rw [e] at h; exact h.elim
  | some o =>
    rw [e] at h
    cases o with
    | none => exact h.elim
    | some d =>
      obtain ⟨v, h1, h2⟩ := a.re.2 i d e
      exact ⟨v, h1, k.here a.ok h h2⟩
theorem pd_of {e : Expr} {v : V} {d : D} (h : PE X e (tC v)) (r : ∀ w, Rp X.K w d v) : PD c X e (dC d) := PE_imp h fun σ H Q ⟨ρ, w, Q', hH, a, h, k⟩ => hH ▸ k.here a.ok h (r w)
theorem pd_int {i j pos} : PD c X (.Constant (.int i) j pos) (dC (.int i)) := pd_of pe_int fun _ => rfl
theorem pd_bl {b j pos} : PD c X (.Constant (.bool b) j pos) (dC (.bl b)) := pd_of pe_bl fun _ => rfl
theorem pd_non {j pos} : PD c X (.Constant .none j pos) (dC .non) := pd_of pe_non fun _ => rfl
theorem pd_str {x j pos} : PD c X (.Constant (.str x) j pos) (dC (.str x)) := pd_of pe_str fun _ => rfl
/-- a name of the module: a constant -/
theorem pd_glob {x : Str} {v : V} {d : D} {u : Value} {pos : Pos} (hg : Gl X x) (hm : X.mg x = some u) (r : RelV v u) (rd : ∀ w, Rp X.K w d v) (hd : (x == ("__debug__" : Str)) = false := by decide) : PD c X (.Name x pos) (dC d) := pd_of (pe_glob hg hm r hd) rd

/-! ### operators -/
abbrev D2 := D → D → Mu → DK → Prop
@[simp] def dOp (g : D2) (ta tb : DE) : DE := fun ρ M Q => ta ρ M fun x M1 => tb ρ M1 fun y M2 => g x y M2 Q
def liftO (K : PySem.W.Frag) (g : D2) : R2 := fun x y H Q => ∃ w dx dy Q', w.H = H ∧ Ok K w ∧ Rp K w dx x ∧ Rp K w dy y ∧ g dx dy w.M Q' ∧ Wv K w Q' Q
abbrev OpD (X : Cx) (f : Value → Value → Sem Value) (g : D2) : Prop := OpR X f (liftO X.K g)
variable {a b e : Expr} {ta tb te : DE} {pos : Pos} {g g' : D2}
theorem op_imp {ρ : DEnv} {w : Wd} {Q' : DK} {K : PySem.W.Frag} {σ : St} {H : Hp} {Q : VK} (hH : w.H = H) (a : At K c w ρ σ) (h : dOp g ta tb ρ w.M Q') (k : Wv K w Q' Q) : tOp (liftO K g) (lift K c ta) (lift K c tb) σ H Q :=
  ⟨ρ, w, _, hH, a, h, fun d w1 v q b1 r => ⟨ρ, w1, _, rfl, a.next b1, q, fun e w2 v2 q2 b2 r2 => ⟨w2, d, e, Q', rfl, b2.ok, r.mono b2.kp, r2, q2, k.back (b1.trans b2)⟩⟩⟩
theorem pd_op {op : Operator} (ho : OpD X (binaryOp op) g) (ha : PD c X a ta) (hb : PD c X b tb) : PD c X (.BinOp a op b pos) (dOp g ta tb) := PE_imp (pe_op ho ha hb) fun _ _ _ ⟨_, _, _, hH, a, h, k⟩ => op_imp hH a h k
theorem pd_cmp {op : CmpOp} (ho : OpD X (compareOp op) g) (ha : PD c X a ta) (hb : PD c X b tb) (hm : behindInMarks op b = false := by first | exact nobehind _ (by decide) (by decide) | rfl) : PD c X (.Compare a [op] [b] pos) (dOp g ta tb) :=
  PE_imp (pe_cmpR ho ha hb hm) fun _ _ _ ⟨_, _, _, hH, a, h, k⟩ => op_imp hH a h k
/-- an answer that is a bool -/
@[simp] def isB (Q : Bool → Mu → Prop) : DK := fun d M => match d with | .bl k => Q k M | _ => False
@[simp] def dB (t : DE) : DT := fun ρ M Q => t ρ M (isB Q)
theorem Wv.isB {K : PySem.W.Frag} {w : Wd} {Q' : Bool → Mu → Prop} {Q : Bool → Hp → Prop} (k : ∀ b w', Q' b w'.M → Bh K w w' → Q b w'.H) : Wv K w (DL.isB Q') (fun x H' => ∃ k, x = .bl k ∧ Q k H') := fun d w' v q b r => by
  cases d with
  | bl z => obtain rfl : v = .bl z := r; exact ⟨z, rfl, k z w' q b⟩
  | _ => exact q.elim
theorem pdt_cmp {op : CmpOp} (ho : OpD X (compareOp op) g) (ha : PD c X a ta) (hb : PD c X b tb) (hm : behindInMarks op b = false := by first | exact nobehind _ (by decide) (by decide) | rfl) : PDT c X (.Compare a [op] [b] pos) (dB (dOp g ta tb)) :=
  PT_imp (pt_cmpR ho ha hb hm) fun _ _ _ ⟨_, _, _, hH, a, h, k⟩ => op_imp hH a h (Wv.isB k)
/-- a value that is a bool, as a test -/
theorem pdt_val (h : PD c X e te) (he : ∀ whole, isTrue e X.env whole = (do let v ← whole; standAt e.pos; holding [v] (truthy v)) := by intro _; rfl) : PDT c X e (dB te) :=
  PT_imp (pt_val h he) fun _ _ _ ⟨ρ, w, Q', hH, a, h, k⟩ => ⟨ρ, w, _, hH, a, h, Wv.isB k⟩

/-! ### and, or, not, if -/
variable {tA tB tC' : DT} {rest : List Expr}
@[simp] def dAnd (t u : DT) : DT := fun ρ M Q => t ρ M fun k M1 => if k = true then u ρ M1 Q else Q false M1
@[simp] def dOr (t u : DT) : DT := fun ρ M Q => t ρ M fun k M1 => if k = true then Q true M1 else u ρ M1 Q
@[simp] def dNot (t : DT) : DT := fun ρ M Q => t ρ M fun k M1 => Q (!k) M1
theorem pdw_one {op} (ha : PDT c X a tA) : PDW c X (.BoolOp op [a] pos) tA := by
  cases op with
  | And => exact pw_and1 ha
  | Or => exact pw_or1 ha
theorem pdw_and (ha : PDT c X a tA) (hb : PDW c X (.BoolOp .And (b :: rest) pos) tB) : PDW c X (.BoolOp .And (a :: b :: rest) pos) (dAnd tA tB) := PW_imp (pw_and ha hb) fun σ H Q ⟨ρ, w, Q', hH, a, h, k⟩ =>
  ⟨ρ, w, _, hH, a, h, fun z w1 q b1 => by
    cases z with
    | true => exact iteT ⟨ρ, w1, Q', rfl, a.next b1, q, fun b w' q b' => k b w' q (b1.trans b')⟩
    | false => exact iteF (k false w1 q b1)⟩
theorem pdw_or (ha : PDT c X a tA) (hb : PDW c X (.BoolOp .Or (b :: rest) pos) tB) : PDW c X (.BoolOp .Or (a :: b :: rest) pos) (dOr tA tB) := PW_imp (pw_or ha hb) fun σ H Q ⟨ρ, w, Q', hH, a, h, k⟩ =>
  ⟨ρ, w, _, hH, a, h, fun z w1 q b1 => by
    cases z with
    | false => exact iteF ⟨ρ, w1, Q', rfl, a.next b1, q, fun b w' q b' => k b w' q (b1.trans b')⟩
    | true => exact iteT (k true w1 q b1)⟩
theorem pdt_not (ha : PDT c X a tA) : PDT c X (.UnaryOp .Not a pos) (dNot tA) := PT_imp (pt_not ha) fun σ H Q ⟨ρ, w, Q', hH, a, h, k⟩ => ⟨ρ, w, _, hH, a, h, fun z w1 q b1 => k _ w1 q b1⟩
@[simp] def dAndV (t u : DE) : DE := fun ρ M Q => t ρ M fun d M1 => match d with | .bl k => if k = true then u ρ M1 Q else Q (.bl false) M1 | _ => False
@[simp] def dOrV (t u : DE) : DE := fun ρ M Q => t ρ M fun d M1 => match d with | .bl k => if k = true then Q (.bl true) M1 else u ρ M1 Q | _ => False
@[simp] def dNotV (t : DE) : DE := fun ρ M Q => t ρ M fun d M1 => match d with | .bl k => Q (.bl (!k)) M1 | _ => False
theorem pd_one {op} (h : PD c X a ta) : PD c X (.BoolOp op [a] pos) ta := pe_one h
theorem pd_and (ha : PD c X a ta) (hb : PD c X (.BoolOp .And (b :: rest) pos) tb) : PD c X (.BoolOp .And (a :: b :: rest) pos) (dAndV ta tb) := PE_imp (pe_and ha hb) fun σ H Q ⟨ρ, w, Q', hH, a, h, k⟩ =>
  ⟨ρ, w, _, hH, a, h, fun d w1 v q b1 r => by
    cases d with
    | bl z =>
      obtain rfl : v = .bl z := r
      cases z with
      | true => exact ⟨true, rfl, iteT ⟨ρ, w1, Q', rfl, a.next b1, q, k.back b1⟩⟩
      | false => exact ⟨false, rfl, iteF (k _ w1 _ q b1 rfl)⟩
    | _ => exact q.elim⟩
theorem pd_or (ha : PD c X a ta) (hb : PD c X (.BoolOp .Or (b :: rest) pos) tb) : PD c X (.BoolOp .Or (a :: b :: rest) pos) (dOrV ta tb) := PE_imp (pe_or ha hb) fun σ H Q ⟨ρ, w, Q', hH, a, h, k⟩ =>
  ⟨ρ, w, _, hH, a, h, fun d w1 v q b1 r => by
    cases d with
    | bl z =>
      obtain rfl : v = .bl z := r
      cases z with
      | false => exact ⟨false, rfl, iteF ⟨ρ, w1, Q', rfl, a.next b1, q, k.back b1⟩⟩
      | true => exact ⟨true, rfl, iteT (k _ w1 _ q b1 rfl)⟩
    | _ => exact q.elim⟩
theorem pd_not (ha : PD c X a ta) : PD c X (.UnaryOp .Not a pos) (dNotV ta) := PE_imp (pe_not ha) fun σ H Q ⟨ρ, w, Q', hH, a, h, k⟩ =>
  ⟨ρ, w, _, hH, a, h, fun d w1 v q b1 r => by
    cases d with
    | bl z => obtain rfl : v = .bl z := r; exact ⟨z, rfl, k _ w1 _ q b1 rfl⟩
    | _ => exact q.elim⟩
@[simp] def dIf (t : DT) (ta tb : DE) : DE := fun ρ M Q => t ρ M fun k M1 => if k = true then ta ρ M1 Q else tb ρ M1 Q
theorem pd_if {t : Expr} (ht : PDT c X t tA) (ha : PD c X a ta) (hb : PD c X b tb) : PD c X (.IfExp t a b pos) (dIf tA ta tb) := PE_imp (pe_ifExp ht ha hb) fun σ H Q ⟨ρ, w, Q', hH, a, h, k⟩ =>
  ⟨ρ, w, _, hH, a, h, fun z w1 q b1 => by
    cases z with
    | true => exact iteT ⟨ρ, w1, Q', rfl, a.next b1, q, k.back b1⟩
    | false => exact iteF ⟨ρ, w1, Q', rfl, a.next b1, q, k.back b1⟩⟩

/-! ### arguments, displays -/
@[simp] def dNil : DA := fun _ M Q => Q [] M
@[simp] def dCons (t : DE) (u : DA) : DA := fun ρ M Q => t ρ M fun d M1 => u ρ M1 fun ds M2 => Q (d :: ds) M2
variable {es : List Expr} {tl : DA}
theorem pda_nil : PDA c X [] dNil := PA_imp pa_nil fun σ H Q ⟨ρ, w, Q', hH, a, h, k⟩ => hH ▸ k [] w [] h (Bh.refl a.ok) rfl
theorem pda_cons (ha : PD c X e te) (hr : PDA c X es tl) (hs : starEach (e :: es) X.env = (false, eval e X.env) :: starEach es X.env := by rfl) : PDA c X (e :: es) (dCons te tl) := PA_imp (pa_cons ha hr hs) fun σ H Q ⟨ρ, w, Q', hH, a, h, k⟩ =>
  ⟨ρ, w, _, hH, a, h, fun d w1 v q b1 r => ⟨ρ, w1, _, rfl, a.next b1, q, fun ds w2 vs q2 b2 r2 => k (d :: ds) w2 (v :: vs) q2 (b1.trans b2) ⟨v, vs, rfl, r.mono b2.kp, r2⟩⟩⟩
@[simp] def dTup (t : DA) : DE := fun ρ M Q => t ρ M fun ds M1 => ds.length ≤ 100000 ∧ Q (.tup ds) M1
@[simp] def dLst (t : DA) : DE := fun ρ M Q => t ρ M fun ds M1 => ds.length ≤ 100000 ∧ Q (.lst ds) M1
theorem sz {n : Nat} (h : n ≤ 100000) : n ≤ sizeLine := Nat.le_trans h (by decide)
theorem szlt {n : Nat} (h : n < 100000) : n < sizeLine := Nat.lt_of_lt_of_le h (by decide)
/-- data that was just laid -/
theorem rp_lst {K : PySem.W.Frag} {w : Wd} {p : Addr} {ds : List D} {xs : List V} (o : Ok K w) (h : w.H p = none) (r : RpL K w ds xs) : Rp K (w.at (upd w.H p (.lst xs))) (.lst ds) (.ref p) := ⟨p, xs, rfl, ⟨o.fresh h, upd_same⟩, r.mono (Kp.new h)⟩
theorem rp_tup {K : PySem.W.Frag} {w : Wd} {p : Addr} {ds : List D} {xs : List V} (o : Ok K w) (h : w.H p = none) (r : RpL K w ds xs) : Rp K (w.at (upd w.H p (.tup xs))) (.tup ds) (.ref p) := ⟨p, xs, rfl, .inl ⟨o.fresh h, upd_same⟩, r.mono (Kp.new h)⟩
theorem pd_tup {x1} (h : PDA c X es tl) : PD c X (.Tuple es x1 pos) (dTup tl) := PE_imp (pe_tup h) fun σ H Q ⟨ρ, w, Q', hH, a, h, k⟩ =>
  ⟨ρ, w, _, hH, a, h, fun ds w1 vs q b1 r => ⟨sz (by rw [r.length]; exact q.1), fun p hp => (k.back b1).new b1.ok hp q.2 (rp_tup b1.ok hp r)⟩⟩
theorem pd_lst (h : PDA c X es tl) : PD c X (.List es pos) (dLst tl) := PE_imp (pe_lst h) fun σ H Q ⟨ρ, w, Q', hH, a, h, k⟩ =>
  ⟨ρ, w, _, hH, a, h, fun ds w1 vs q b1 r => ⟨sz (by rw [r.length]; exact q.1), fun p hp => (k.back b1).new b1.ok hp q.2 (rp_lst b1.ok hp r)⟩⟩

/-! ### calls of built-ins by values -/
abbrev DC := List D → Mu → DK → Prop
@[simp] def dCB (g : DC) (t : DA) : DE := fun ρ M Q => t ρ M fun ds M1 => g ds M1 Q
def liftC (K : PySem.W.Frag) (g : DC) : List V → Hp → VK → Prop := fun vs H Q => ∃ w ds Q', w.H = H ∧ Ok K w ∧ RpL K w ds vs ∧ g ds w.M Q' ∧ Wv K w Q' Q
abbrev CallD (X : Cx) (f : Value) (g : DC) : Prop := CallR X f (liftC X.K g)
variable {id T : String} {x : Str} {p : Pos} {gc : DC}
theorem cb_imp {ρ : DEnv} {w : Wd} {Q' : DK} {K : PySem.W.Frag} {σ : St} {H : Hp} {Q : VK} (hH : w.H = H) (a : At K c w ρ σ) (h : dCB gc tl ρ w.M Q') (k : Wv K w Q' Q) : tCB (liftC K gc) (liftA K c tl) σ H Q :=
  ⟨ρ, w, _, hH, a, h, fun ds w1 vs q b1 r => ⟨w1, ds, Q', rfl, b1.ok, r, q, k.back b1⟩⟩
theorem pd_callB (hc : CallD X (.builtin id) gc) (hg : Gl X x) (hm : X.mg x = none) (hv : bootBuiltins x = some (.builtin id)) (ha : PDA c X (e :: es) tl) (hn : x ≠ "__name__" := by decide) (hdb : (x == ("__debug__" : Str)) = false := by decide)
    (he : starEach (e :: es) X.env = (false, eval e X.env) :: starEach es X.env := by rfl) (hpl : (backTo pos (starEach es X.env)).any (·.1) = false := by rfl) : PD c X (.Call (.Name x p) (e :: es) [] pos) (dCB gc tl) :=
  PE_imp (pe_callB hc hg hm hv ha hn hdb he hpl) fun _ _ _ ⟨_, _, _, hH, a, h, k⟩ => cb_imp hH a h k
theorem pd_callTy (hc : CallD X (.type T) gc) (hg : Gl X x) (hm : X.mg x = none) (hv : bootBuiltins x = some (.type T)) (ha : PDA c X (e :: es) tl) (hn : x ≠ "__name__" := by decide) (hdb : (x == ("__debug__" : Str)) = false := by decide)
    (he : starEach (e :: es) X.env = (false, eval e X.env) :: starEach es X.env := by rfl) (hpl : (backTo pos (starEach es X.env)).any (·.1) = false := by rfl) : PD c X (.Call (.Name x p) (e :: es) [] pos) (dCB gc tl) :=
  PE_imp (pe_callTy hc hg hm hv ha hn hdb he hpl) fun _ _ _ ⟨_, _, _, hH, a, h, k⟩ => cb_imp hH a h k
end
end DL
/-! The data layer, part c: operators, subscripts, built-in calls. -/
namespace DL
open PySem L2

/-! ### plain data -/
mutual
def py : D → PyData
  | .non => .none
  | .bl b => .bool b
  | .int i => .int i
  | .str x => .str x
  | .lst xs => .list (pyL xs)
  | .tup xs => .tuple (pyL xs)
  | .dct _ => .none
  | .obj _ _ => .none
  | .ref _ => .none
  | .ty _ => .none
  | .scr _ => .none
def pyL : List D → List PyData
  | [] => []
  | x :: xs => py x :: pyL xs
end
theorem pyL_map : ∀ xs : List D, pyL xs = xs.map py
  | [] => rfl
  | x :: xs => by rw [pyL, pyL_map xs, List.map_cons]
theorem py_lst (xs : List D) : py (.lst xs) = .list (xs.map py) := by rw [py, pyL_map]
theorem py_tup (xs : List D) : py (.tup xs) = .tuple (xs.map py) := by rw [py, pyL_map]
def pyN : Nat → D → Bool
  | _, .non => true
  | _, .bl _ => true
  | _, .int _ => true
  | _, .str x => PyData.strOk x
  | n + 1, .lst xs => xs.all (pyN n)
  | n + 1, .tup xs => xs.all (pyN n)
  | _, _ => false
def flatD : D → Bool
  | .non => true
  | .bl _ => true
  | .int _ => true
  | .str _ => true
  | _ => false
def strPair : D → D → Bool
  | .str _, .str _ => true
  | .str _, .non => true
  | .str _, .int _ => true
  | .str _, .bl _ => true
  | .non, .str _ => true
  | .int _, .str _ => true
  | .bl _, .str _ => true
  | _, _ => false
def eqOk (x y : D) : Bool := strPair x y || (pyN 30 x && pyN 30 y)
def eqB (x y : D) : Bool := PyData.eqv (py x) (py y)
section
variable {K : PySem.W.Frag} {w : Wd}
theorem dp_of : ∀ (n : Nat) (d : D) (v : V), pyN n d = true → Rp K w d v → Dp K w.H v (py d) ∧ PyData.canLay0 (py d) = true ∧ PyData.depth (py d) ≤ n := by
  have key : ∀ (n : Nat), (∀ (d : D) (v : V), pyN n d = true → Rp K w d v → Dp K w.H v (py d) ∧ PyData.canLay0 (py d) = true ∧ PyData.depth (py d) ≤ n) →
      ∀ (ds : List D) (vs : List V), ds.all (pyN n) = true → RpL K w ds vs → DpAll K w.H vs (ds.map py) ∧ PyData.canLayAll0 (ds.map py) = true ∧ PyData.depthAll (ds.map py) ≤ n := by
    intro n ih ds
    induction ds with
    | nil => intro vs _ r; obtain rfl : vs = [] := r; exact ⟨.nil, rfl, Nat.zero_le _⟩
    | cons d ds ih2 =>
      intro vs h r
      obtain ⟨x, q, rfl, r1, r2⟩ := r
      rw [List.all_cons, Bool.and_eq_true] at h
      obtain ⟨a1, a2, a3⟩ := ih d x h.1 r1
      obtain ⟨b1, b2, b3⟩ := ih2 q h.2 r2
      refine ⟨.cons a1 b1, ?_, ?_⟩
      · rw [List.map_cons, PyData.canLayAll0, a2, b2]; rfl
      · rw [List.map_cons, PyData.depthAll]; omega
  intro n
  induction n with
  | zero =>
    intro d v h r
    cases d with
    | non => obtain rfl : v = .non := r; exact ⟨.non, rfl, Nat.le_refl _⟩
    | bl b => obtain rfl : v = .bl b := r; exact ⟨.bl b, rfl, Nat.le_refl _⟩
    | int i => obtain rfl : v = .int i := r; exact ⟨.int i, rfl, Nat.le_refl _⟩
    | str x => obtain rfl : v = .str x := r; exact ⟨.str x, h, Nat.le_refl _⟩
    | _ => exact absurd h (by simp [pyN])
  | succ n ih =>
    intro d v h r
    cases d with
    | non => obtain rfl : v = .non := r; exact ⟨.non, rfl, Nat.zero_le _⟩
    | bl b => obtain rfl : v = .bl b := r; exact ⟨.bl b, rfl, Nat.zero_le _⟩
    | int i => obtain rfl : v = .int i := r; exact ⟨.int i, rfl, Nat.zero_le _⟩
    | str x => obtain rfl : v = .str x := r; exact ⟨.str x, h, Nat.zero_le _⟩
    | lst ds =>
      obtain ⟨a, xs, rfl, hl, hr⟩ := r
      obtain ⟨b1, b2, b3⟩ := key n ih ds xs h hr
      rw [py_lst]
      exact ⟨.lst hl.sq b1, b2, Nat.succ_le_succ b3⟩
    | tup ds =>
      obtain ⟨a, xs, rfl, hl, hr⟩ := r
      obtain ⟨b1, b2, b3⟩ := key n ih ds xs h hr
      rw [py_tup]
      exact ⟨.tup hl.sq b1, b2, Nat.succ_le_succ b3⟩
    | _ => exact absurd h (by simp [pyN])
theorem shaped_of {d : D} {v : V} (h : pyN 30 d = true) (r : Rp K w d v) : Dp K w.H v (py d) ∧ SeqAt.shaped (py d) = true := by
  obtain ⟨a, b, c⟩ := dp_of 30 d v h r
  refine ⟨a, ?_⟩
  unfold SeqAt.shaped
  rw [b, decide_eq_true (show (py d).depth ≤ 64 by omega)]
  rfl
end

/-! ### operators -/
@[simp] def addD : D2 := fun x y M Q => match x, y with
  | .int i, .int j => Q (.int (i + j)) M
  | .str a, .str b => a.length + b.length ≤ 100000 ∧ Q (.str (a ++ b)) M
  | .lst a, .lst b => a.length + b.length ≤ 100000 ∧ Q (.lst (a ++ b)) M
  | .tup a, .tup b => a.length + b.length ≤ 100000 ∧ Q (.tup (a ++ b)) M
  | _, _ => False
@[simp] def subD : D2 := fun x y M Q => match x, y with
  | .int i, .int j => Q (.int (i - j)) M
  | _, _ => False
@[simp] def mulD : D2 := fun x y M Q => match x, y with
  | .int i, .int j => CMul i j ∧ Q (.int (i * j)) M
  | .lst a, .int k => 0 ≤ k ∧ k ≤ 100000 ∧ a.length * k.toNat ≤ 100000 ∧ Q (.lst (List.replicate k.toNat a).flatten) M
  | _, _ => False
@[simp] def fdivD : D2 := fun x y M Q => match x, y with
  | .int i, .int j => (0 < j ∧ j < 1073741824) ∧ Q (.int (i / j)) M
  | _, _ => False
@[simp] def modD : D2 := fun x y M Q => match x, y with
  | .int i, .int j => 0 < j ∧ Q (.int (i % j)) M
  | _, _ => False
@[simp] def powD : D2 := fun x y M Q => match x, y with
  | .int i, .int j => CPow i j ∧ Q (.int (i ^ j.toNat)) M
  | _, _ => False
@[simp] def eqD : D2 := fun x y M Q => eqOk x y = true ∧ Q (.bl (eqB x y)) M
@[simp] def neD : D2 := fun x y M Q => eqOk x y = true ∧ Q (.bl (!eqB x y)) M
@[simp] def ltD : D2 := fun x y M Q => match x, y with
  | .int i, .int j => Q (.bl (decide (i < j))) M
  | _, _ => False
@[simp] def leD : D2 := fun x y M Q => match x, y with
  | .int i, .int j => Q (.bl (decide (i ≤ j))) M
  | _, _ => False
@[simp] def gtD : D2 := fun x y M Q => match x, y with
  | .int i, .int j => Q (.bl (decide (j < i))) M
  | _, _ => False
@[simp] def geD : D2 := fun x y M Q => match x, y with
  | .int i, .int j => Q (.bl (decide (j ≤ i))) M
  | _, _ => False
def isNon : D → Bool
  | .non => true
  | _ => false
@[simp] def isND : D2 := fun x y M Q => match y with
  | .non => Q (.bl (isNon x)) M
  | _ => False
@[simp] def notND : D2 := fun x y M Q => match y with
  | .non => Q (.bl (!isNon x)) M
  | _ => False
def inB (x : D) (ys : List D) : Bool := ys.any fun y => eqB y x
def subText (a b : Str) : Bool := !(Builtin.Str.occurrences b a 0 b.length 1).isEmpty
@[simp] def inD : D2 := fun x y M Q => match x, y with
  | .str a, .str b => Q (.bl (subText a b)) M
  | x, .lst ys => (flatD x = true ∧ ys.all flatD = true) ∧ Q (.bl (inB x ys)) M
  | x, .tup ys => (flatD x = true ∧ ys.all flatD = true) ∧ Q (.bl (inB x ys)) M
  | _, _ => False
@[simp] def ninD : D2 := fun x y M Q => match x, y with
  | .str a, .str b => Q (.bl (!subText a b)) M
  | x, .lst ys => (flatD x = true ∧ ys.all flatD = true) ∧ Q (.bl (!inB x ys)) M
  | x, .tup ys => (flatD x = true ∧ ys.all flatD = true) ∧ Q (.bl (!inB x ys)) M
  | _, _ => False
section
variable {X : Cx}
theorem opD_add : OpD X (binaryOp .Add) addD := by
  intro pins s σ H x y v u Q I rx ry ⟨w, dx, dy, Q', hH, ok, r1, r2, h, k⟩
  subst hH
  cases dx <;> cases dy <;> first | exact False.elim h | skip
  case int.int i j =>
    obtain rfl : x = .int i := r1; obtain rfl : y = .int j := r2
    exact op_add pins s σ _ _ _ v u Q I rx ry ⟨i, j, rfl, rfl, k.here ok h rfl⟩
  case str.str a b =>
    obtain rfl : x = .str a := r1; obtain rfl : y = .str b := r2
    exact op_add_str pins s σ _ _ _ v u Q I rx ry ⟨a, b, rfl, rfl, sz h.1, k.here ok h.2 rfl⟩
  case lst.lst a b =>
    obtain ⟨p, xs, rfl, l1, s1⟩ := r1; obtain ⟨p2, ys, rfl, l2, s2⟩ := r2
    refine op_cat pins s σ _ _ _ v u Q I rx ry ⟨p, p2, xs, ys, rfl, rfl, l1.2, l2.2, by rw [s1.length, s2.length]; exact sz h.1, fun q hq => ?_⟩
    exact k.new ok hq h.2 (rp_lst ok hq (s1.append s2))
  case tup.tup a b =>
    obtain ⟨p, xs, rfl, l1, s1⟩ := r1; obtain ⟨p2, ys, rfl, l2, s2⟩ := r2
    refine op_catA pins s σ _ _ _ v u Q I rx ry ⟨p, p2, xs, ys, rfl, rfl, l1.sq, l2.sq, by rw [s1.length, s2.length]; exact sz h.1, fun e => ?_, fun _ e => ?_, fun _ _ q hq => ?_⟩
    · subst e
      cases a with
      | nil => exact k.here ok h.2 ⟨p2, ys, rfl, l2, s2⟩
      | cons d r => obtain ⟨_, _, z, _⟩ := s1; cases z
    · subst e
      cases b with
      | nil => exact k.here ok h.2 (by rw [List.append_nil]; exact ⟨p, xs, rfl, l1, s1⟩)
      | cons d r => obtain ⟨_, _, z, _⟩ := s2; cases z
    · exact k.new ok hq h.2 (rp_tup ok hq (s1.append s2))
theorem opD_sub : OpD X (binaryOp .Sub) subD := by
  intro pins s σ H x y v u Q I rx ry ⟨w, dx, dy, Q', hH, ok, r1, r2, h, k⟩
  subst hH
  cases dx <;> cases dy <;> first | exact False.elim h | skip
  case int.int i j =>
    obtain rfl : x = .int i := r1; obtain rfl : y = .int j := r2
    exact op_sub pins s σ _ _ _ v u Q I rx ry ⟨i, j, rfl, rfl, k.here ok h rfl⟩
theorem rp_flat {K : PySem.W.Frag} {w : Wd} {ds : List D} {xs : List V} (r : RpL K w ds xs) : ∀ n : Nat, RpL K w (List.replicate n ds).flatten (List.replicate n xs).flatten
  | 0 => rfl
  | n + 1 => by
    rw [List.replicate_succ, List.replicate_succ, List.flatten_cons, List.flatten_cons]
    exact r.append (rp_flat r n)
theorem opD_mul : OpD X (binaryOp .Mult) mulD := by
  intro pins s σ H x y v u Q I rx ry ⟨w, dx, dy, Q', hH, ok, r1, r2, h, k⟩
  subst hH
  cases dx <;> cases dy <;> first | exact False.elim h | skip
  case int.int i j =>
    obtain rfl : x = .int i := r1; obtain rfl : y = .int j := r2
    exact op_mul pins s σ _ _ _ v u Q I rx ry ⟨i, j, rfl, rfl, h.1, k.here ok h.2 rfl⟩
  case lst.int a n =>
    obtain ⟨p, xs, rfl, l1, s1⟩ := r1; obtain rfl : y = .int n := r2
    refine op_rep pins s σ _ _ _ v u Q I rx ry ⟨p, n, xs, rfl, rfl, l1.2, (by have h1 := h.1; have h2 := h.2.1; omega), (by have h1 := h.1; have h2 := h.2.1; omega), by rw [s1.length]; exact sz h.2.2.1, fun q hq => ?_⟩
    exact k.new ok hq h.2.2.2 (rp_lst ok hq (rp_flat s1 n.toNat))
theorem opD_fdiv : OpD X (binaryOp .FloorDiv) fdivD := by
  intro pins s σ H x y v u Q I rx ry ⟨w, dx, dy, Q', hH, ok, r1, r2, h, k⟩
  subst hH
  cases dx <;> cases dy <;> first | exact False.elim h | skip
  case int.int i j =>
    obtain rfl : x = .int i := r1; obtain rfl : y = .int j := r2
    exact op_fdiv pins s σ _ _ _ v u Q I rx ry ⟨i, j, rfl, rfl, h.1, k.here ok h.2 rfl⟩
theorem opD_mod : OpD X (binaryOp .Mod) modD := by
  intro pins s σ H x y v u Q I rx ry ⟨w, dx, dy, Q', hH, ok, r1, r2, h, k⟩
  subst hH
  cases dx <;> cases dy <;> first | exact False.elim h | skip
  case int.int i j =>
    obtain rfl : x = .int i := r1; obtain rfl : y = .int j := r2
    exact op_mod pins s σ _ _ _ v u Q I rx ry ⟨i, j, rfl, rfl, h.1, k.here ok h.2 rfl⟩
theorem opD_pow : OpD X (binaryOp .Pow) powD := by
  intro pins s σ H x y v u Q I rx ry ⟨w, dx, dy, Q', hH, ok, r1, r2, h, k⟩
  subst hH
  cases dx <;> cases dy <;> first | exact False.elim h | skip
  case int.int i j =>
    obtain rfl : x = .int i := r1; obtain rfl : y = .int j := r2
    exact op_pow pins s σ _ _ _ v u Q I rx ry ⟨i, j, rfl, rfl, h.1, k.here ok h.2 rfl⟩
theorem opD_lt : OpD X (compareOp .Lt) ltD := by
  intro pins s σ H x y v u Q I rx ry ⟨w, dx, dy, Q', hH, ok, r1, r2, h, k⟩
  subst hH
  cases dx <;> cases dy <;> first | exact False.elim h | skip
  case int.int i j =>
    obtain rfl : x = .int i := r1; obtain rfl : y = .int j := r2
    exact op_lt pins s σ _ _ _ v u Q I rx ry ⟨i, j, rfl, rfl, k.here ok h rfl⟩
theorem opD_le : OpD X (compareOp .LtE) leD := by
  intro pins s σ H x y v u Q I rx ry ⟨w, dx, dy, Q', hH, ok, r1, r2, h, k⟩
  subst hH
  cases dx <;> cases dy <;> first | exact False.elim h | skip
  case int.int i j =>
    obtain rfl : x = .int i := r1; obtain rfl : y = .int j := r2
    exact op_le pins s σ _ _ _ v u Q I rx ry ⟨i, j, rfl, rfl, k.here ok h rfl⟩
theorem opD_gt : OpD X (compareOp .Gt) gtD := by
  intro pins s σ H x y v u Q I rx ry ⟨w, dx, dy, Q', hH, ok, r1, r2, h, k⟩
  subst hH
  cases dx <;> cases dy <;> first | exact False.elim h | skip
  case int.int i j =>
    obtain rfl : x = .int i := r1; obtain rfl : y = .int j := r2
    exact op_gt pins s σ _ _ _ v u Q I rx ry ⟨i, j, rfl, rfl, k.here ok h rfl⟩
theorem opD_ge : OpD X (compareOp .GtE) geD := by
  intro pins s σ H x y v u Q I rx ry ⟨w, dx, dy, Q', hH, ok, r1, r2, h, k⟩
  subst hH
  cases dx <;> cases dy <;> first | exact False.elim h | skip
  case int.int i j =>
    obtain rfl : x = .int i := r1; obtain rfl : y = .int j := r2
    exact op_ge pins s σ _ _ _ v u Q I rx ry ⟨i, j, rfl, rfl, k.here ok h rfl⟩
theorem rp_non {K : PySem.W.Frag} {w : Wd} {d : D} {v : V} (r : Rp K w d v) : decide (v = .non) = isNon d := by
  cases d with
  | non => obtain rfl : v = .non := r; rfl
  | bl b => obtain rfl : v = .bl b := r; rfl
  | int b => obtain rfl : v = .int b := r; rfl
  | str b => obtain rfl : v = .str b := r; rfl
  | ref b => obtain rfl : v = .ref b := r; rfl
  | ty b => obtain rfl : v = .ty b := r; rfl
  | lst b => obtain ⟨_, _, rfl, _⟩ := r; rfl
  | tup b => obtain ⟨_, _, rfl, _⟩ := r; rfl
  | dct b => obtain ⟨_, rfl, _⟩ := r; rfl
  | obj C b => obtain ⟨_, _, _, rfl, _⟩ := r; rfl
  | scr b => obtain ⟨_, rfl, _⟩ := r; rfl
theorem opD_is : OpD X (compareOp .Is) isND := by
  intro pins s σ H x y v u Q I rx ry ⟨w, dx, dy, Q', hH, ok, r1, r2, h, k⟩
  subst hH
  cases dy <;> first | exact False.elim h | skip
  case non =>
    obtain rfl : y = .non := r2
    exact op_isN pins s σ _ _ _ v u Q I rx ry ⟨rfl, by rw [rp_non r1]; exact k.here ok h rfl⟩
theorem opD_isnot : OpD X (compareOp .IsNot) notND := by
  intro pins s σ H x y v u Q I rx ry ⟨w, dx, dy, Q', hH, ok, r1, r2, h, k⟩
  subst hH
  cases dy <;> first | exact False.elim h | skip
  case non =>
    obtain rfl : y = .non := r2
    exact op_notN pins s σ _ _ _ v u Q I rx ry ⟨rfl, by rw [rp_non r1]; exact k.here ok h rfl⟩

/-! ### ==, in -/
theorem eq_flat {X : Cx} (hu : X.A.units + 64 < cLine) : OpR X (compareOp .Eq) (liftO X.K eqD) := by
  intro pins s σ H x y v u Q I rx ry ⟨w, dx, dy, Q', hH, ok, r1, r2, h, k⟩
  subst hH
  have gen : pyN 30 dx = true → pyN 30 dy = true → wpAny (model X.prog X.w) X.A (compareOp .Eq v u) (EP X pins σ Q) X.xe s := fun h1 h2 => by
    obtain ⟨a1, a2⟩ := shaped_of h1 r1
    obtain ⟨b1, b2⟩ := shaped_of h2 r2
    exact op_eqD hu pins s σ _ _ _ v u Q I rx ry ⟨_, _, a1, b1, a2, b2, k.here ok h.2 rfl⟩
  have fl : scal x y = true → decide (x = y) = eqB dx dy → wpAny (model X.prog X.w) X.A (compareOp .Eq v u) (EP X pins σ Q) X.xe s := fun h1 h2 =>
    op_eq pins s σ _ _ _ v u Q I rx ry ⟨h1, by rw [h2]; exact k.here ok h.2 rfl⟩
  have h1 := h.1
  rw [eqOk, Bool.or_eq_true, Bool.and_eq_true] at h1
  rcases h1 with h1 | h1
  rotate_left
  · exact gen h1.1 h1.2
  cases dx <;> cases dy <;> first
    | exact (Bool.noConfusion (show false = true from h1))
    | (obtain rfl := (show x = _ from r1); obtain rfl := (show y = _ from r2); exact fl rfl rfl)
    | (obtain rfl := (show x = _ from r1); obtain rfl := (show y = _ from r2); exact fl rfl (by
        rename_i a b
        show decide (V.str a = V.str b) = (a == b)
        by_cases e : a = b
        · subst e; simp
        · rw [decide_eq_false (by intro z; exact e (V.str.inj z))]; simp [e]))
theorem ne_flat {X : Cx} (hu : X.A.units + 64 < cLine) : OpR X (compareOp .NotEq) (liftO X.K neD) := by
  intro pins s σ H x y v u Q I rx ry ⟨w, dx, dy, Q', hH, ok, r1, r2, h, k⟩
  subst hH
  have gen : pyN 30 dx = true → pyN 30 dy = true → wpAny (model X.prog X.w) X.A (compareOp .NotEq v u) (EP X pins σ Q) X.xe s := fun h1 h2 => by
    obtain ⟨a1, a2⟩ := shaped_of h1 r1
    obtain ⟨b1, b2⟩ := shaped_of h2 r2
    exact op_neD hu pins s σ _ _ _ v u Q I rx ry ⟨_, _, a1, b1, a2, b2, k.here ok h.2 rfl⟩
  have fl : scal x y = true → decide (x = y) = eqB dx dy → wpAny (model X.prog X.w) X.A (compareOp .NotEq v u) (EP X pins σ Q) X.xe s := fun h1 h2 =>
    op_ne pins s σ _ _ _ v u Q I rx ry ⟨h1, by rw [h2]; exact k.here ok h.2 rfl⟩
  have h1 := h.1
  rw [eqOk, Bool.or_eq_true, Bool.and_eq_true] at h1
  rcases h1 with h1 | h1
  rotate_left
  · exact gen h1.1 h1.2
  cases dx <;> cases dy <;> first
    | exact (Bool.noConfusion (show false = true from h1))
    | (obtain rfl := (show x = _ from r1); obtain rfl := (show y = _ from r2); exact fl rfl rfl)
    | (obtain rfl := (show x = _ from r1); obtain rfl := (show y = _ from r2); exact fl rfl (by
        rename_i a b
        show decide (V.str a = V.str b) = (a == b)
        by_cases e : a = b
        · subst e; simp
        · rw [decide_eq_false (by intro z; exact e (V.str.inj z))]; simp [e]))
theorem flat_v {K : PySem.W.Frag} {w : Wd} {d : D} {v : V} (h : flatD d = true) (r : Rp K w d v) : flatV v = true := by
  cases d <;> first | (obtain rfl := (show v = _ from r); rfl) | exact (Bool.noConfusion (show false = true from h))
theorem flat_vs {K : PySem.W.Frag} {w : Wd} : ∀ {ds : List D} {vs : List V}, ds.all flatD = true → RpL K w ds vs → vs.all flatV = true
  | [], vs, h, r => by obtain rfl : vs = [] := r; rfl
  | d :: ds, vs, h, r => by
    obtain ⟨x, q, rfl, r1, r2⟩ := r
    rw [List.all_cons, Bool.and_eq_true] at h
    rw [List.all_cons, flat_v h.1 r1, flat_vs h.2 r2]; rfl
theorem eqV_eqB {K : PySem.W.Frag} {w : Wd} {d e : D} {v u : V} (h : flatD d = true) (h' : flatD e = true) (r : Rp K w d v) (r' : Rp K w e u) : eqV v u = eqB d e := by
  cases d <;> cases e <;> first | (obtain rfl := (show v = _ from r); obtain rfl := (show u = _ from r'); rfl) | exact (Bool.noConfusion (show false = true from h)) | exact (Bool.noConfusion (show false = true from h'))
theorem inV_inB {K : PySem.W.Frag} {w : Wd} {d : D} {v : V} (h : flatD d = true) (r : Rp K w d v) : ∀ {ds : List D} {vs : List V}, ds.all flatD = true → RpL K w ds vs → inV v vs = inB d ds
  | [], vs, h, r => by obtain rfl : vs = [] := r; rfl
  | e :: ds, vs, h', r' => by
    obtain ⟨x, q, rfl, r1, r2⟩ := r'
    rw [List.all_cons, Bool.and_eq_true] at h'
    have ih := inV_inB h r h'.2 r2
    unfold inV inB at ih ⊢
    rw [List.any_cons, List.any_cons, eqV_eqB h'.1 h r1 r, ih]
theorem opD_in : OpD X (compareOp .In) inD := by
  intro pins s σ H x y v u Q I rx ry ⟨w, dx, dy, Q', hH, ok, r1, r2, h, k⟩
  subst hH
  have hs : ∀ ys, (∃ p xs, y = .ref p ∧ (SqL X.K w.H p xs ∨ SqT X.K w.H p xs) ∧ RpL X.K w ys xs) → (flatD dx = true ∧ ys.all flatD = true) ∧ Q' (.bl (inB dx ys)) w.M → wpAny (model X.prog X.w) X.A (compareOp .In v u) (EP X pins σ Q) X.xe s := fun ys ⟨p, xs, e, l, s1⟩ h =>
    op_in_seq pins s σ _ _ _ v u Q I rx ry ⟨p, xs, e, l, flat_v h.1.1 r1, flat_vs h.1.2 s1, by
      show Q (.bl (inV x xs)) w.H
      rw [inV_inB h.1.1 r1 h.1.2 s1]; exact k.here ok h.2 rfl⟩
  cases dy with
  | lst ys => obtain ⟨p, xs, rfl, l, s1⟩ := r2; exact hs ys ⟨p, xs, rfl, .inl l.sq, s1⟩ (by cases dx <;> exact h)
  | tup ys => obtain ⟨p, xs, rfl, l, s1⟩ := r2; exact hs ys ⟨p, xs, rfl, .inr l.sq, s1⟩ (by cases dx <;> exact h)
  | str b =>
    cases dx with
    | str a =>
      obtain rfl : x = .str a := r1; obtain rfl : y = .str b := r2
      exact op_in_str pins s σ _ _ _ v u Q I rx ry ⟨a, b, rfl, rfl, k.here ok h rfl⟩
    | _ => exact False.elim h
  | _ => cases dx <;> exact False.elim h
theorem opD_nin : OpD X (compareOp .NotIn) ninD := by
  intro pins s σ H x y v u Q I rx ry ⟨w, dx, dy, Q', hH, ok, r1, r2, h, k⟩
  subst hH
  have hs : ∀ ys, (∃ p xs, y = .ref p ∧ (SqL X.K w.H p xs ∨ SqT X.K w.H p xs) ∧ RpL X.K w ys xs) → (flatD dx = true ∧ ys.all flatD = true) ∧ Q' (.bl (!inB dx ys)) w.M → wpAny (model X.prog X.w) X.A (compareOp .NotIn v u) (EP X pins σ Q) X.xe s := fun ys ⟨p, xs, e, l, s1⟩ h =>
    op_notIn_seq pins s σ _ _ _ v u Q I rx ry ⟨p, xs, e, l, flat_v h.1.1 r1, flat_vs h.1.2 s1, by
      show Q (.bl (!inV x xs)) w.H
      rw [inV_inB h.1.1 r1 h.1.2 s1]; exact k.here ok h.2 rfl⟩
  cases dy with
  | lst ys => obtain ⟨p, xs, rfl, l, s1⟩ := r2; exact hs ys ⟨p, xs, rfl, .inl l.sq, s1⟩ (by cases dx <;> exact h)
  | tup ys => obtain ⟨p, xs, rfl, l, s1⟩ := r2; exact hs ys ⟨p, xs, rfl, .inr l.sq, s1⟩ (by cases dx <;> exact h)
  | str b =>
    cases dx with
    | str a =>
      obtain rfl : x = .str a := r1; obtain rfl : y = .str b := r2
      exact op_notin_str pins s σ _ _ _ v u Q I rx ry ⟨a, b, rfl, rfl, k.here ok h rfl⟩
    | _ => exact False.elim h
  | _ => cases dx <;> exact False.elim h

/-! ### chains -/
variable {c : Wd} {a b e : Expr} {ta tb te : DE} {pos : Pos} {g g' : D2}
@[simp] def dChain (g g' : D2) (ta tb tc : DE) : DE := fun ρ M Q => ta ρ M fun x M1 => tb ρ M1 fun y M2 => g x y M2 fun z M3 => match z with | .bl k => if k = true then (tc ρ M3 fun w M4 => g' y w M4 Q) else Q (.bl false) M3 | _ => False
theorem chain_imp {tc : DE} {ρ : DEnv} {w : Wd} {Q' : DK} {K : PySem.W.Frag} {σ : St} {H : Hp} {Q : VK} (hH : w.H = H) (a : At K c w ρ σ) (h : dChain g g' ta tb tc ρ w.M Q') (k : Wv K w Q' Q) : tChain (liftO K g) (liftO K g') (lift K c ta) (lift K c tb) (lift K c tc) σ H Q :=
  ⟨ρ, w, _, hH, a, h, fun d w1 v q b1 r => ⟨ρ, w1, _, rfl, a.next b1, q, fun e w2 v2 q2 b2 r2 => ⟨w2, d, e, _, rfl, b2.ok, r.mono b2.kp, r2, q2, fun z w3 vz q3 b3 r3 => by
    cases z with
    | bl y =>
      obtain rfl : vz = .bl y := r3
      refine ⟨y, rfl, ?_⟩
      cases y with
      | true => exact iteT ⟨ρ, w3, _, rfl, a.next ((b1.trans b2).trans b3), q3, fun d4 w4 v4 q4 b4 r4 => ⟨w4, e, d4, Q', rfl, b4.ok, (r2.mono b3.kp).mono b4.kp, r4, q4, k.back (((b1.trans b2).trans b3).trans b4)⟩⟩
      | false => exact iteF (k _ w3 _ q3 ((b1.trans b2).trans b3) rfl)
    | _ => exact q3.elim⟩⟩⟩
theorem pd_chain {op op' : CmpOp} {c' : Expr} {tc : DE} (ho : OpD X (compareOp op) g) (ho' : OpD X (compareOp op') g') (ha : PD c X a ta) (hb : PD c X b tb) (hc : PD c X c' tc)
    (hm : lastMarks [op, op'] [b, c'] = false := by with_unfolding_all rfl) : PD c X (.Compare a [op, op'] [b, c'] pos) (dChain g g' ta tb tc) := PE_imp (pe_chain ho ho' ha hb hc hm) fun _ _ _ ⟨_, _, _, hH, a, h, k⟩ => chain_imp hH a h k
theorem pdt_chain {op op' : CmpOp} {c' : Expr} {tc : DE} (ho : OpD X (compareOp op) g) (ho' : OpD X (compareOp op') g') (ha : PD c X a ta) (hb : PD c X b tb) (hc : PD c X c' tc)
    (hm : lastMarks [op, op'] [b, c'] = false := by with_unfolding_all rfl) : PDT c X (.Compare a [op, op'] [b, c'] pos) (dB (dChain g g' ta tb tc)) := PT_imp (pt_chain ho ho' ha hb hc hm) fun _ _ _ ⟨_, _, _, hH, a, h, k⟩ => chain_imp hH a h (Wv.isB k)

/-! ### subscripts, slices -/
@[simp] def ixD : D2 := fun x y M Q => match y with
  | .int i => match x with
    | .lst ds => (match atI ds i with | some d => Q d M | none => False)
    | .tup ds => (match atI ds i with | some d => Q d M | none => False)
    | .str z => z.length ≤ 100000 ∧ (match atI z.cps.toList i with | some c => Q (.str ⟨#[c]⟩) M | none => False)
    | .ref a => (match M a with | some (.lst ds) => (match atI ds i with | some d => Q d M | none => False) | _ => False)
    | _ => False
  | _ => False
theorem atI_rp {K : PySem.W.Frag} {w : Wd} {ds : List D} {vs : List V} {i : Int} {d : D} (r : RpL K w ds vs) (h : atI ds i = some d) : ∃ v, atI vs i = some v ∧ Rp K w d v := by
  unfold atI at h ⊢
  rw [r.length]
  cases e : ixN ds.length i with
  | none => rw [e] at h; cases h
  | some j =>
    rw [e] at h
    obtain ⟨v, h1, h2⟩ := r.at (i := j) (d := d) h
    exact ⟨v, h1, h2⟩
theorem ixR_D : IxR X (liftO X.K ixD) := by
  intro value slice pins s σ H x y v u Q I rx ry ⟨w, dx, dy, Q', hH, ok, r1, r2, h, k⟩ hs
  subst hH
  cases dy with
  | int i =>
    obtain rfl : y = .int i := r2
    cases dx with
    | lst ds =>
      obtain ⟨p, xs, rfl, l, s1⟩ := r1
      cases e : atI ds i with
      | none => simp only [ixD, e] at h
      | some d =>
        simp only [ixD, e] at h
        obtain ⟨z, h1, h2⟩ := atI_rp s1 e
        exact ix_list value slice pins s σ _ _ _ v u Q I rx ry ⟨p, xs, i, z, rfl, rfl, l.sq, h1, k.here ok h h2⟩ hs
    | tup ds =>
      obtain ⟨p, xs, rfl, l, s1⟩ := r1
      cases e : atI ds i with
      | none => simp only [ixD, e] at h
      | some d =>
        simp only [ixD, e] at h
        obtain ⟨z, h1, h2⟩ := atI_rp s1 e
        exact ix_tup value slice pins s σ _ _ _ v u Q I rx ry ⟨p, xs, i, z, rfl, rfl, l.sq, h1, k.here ok h h2⟩ hs
    | str z =>
      obtain rfl : x = .str z := r1
      cases e : atI z.cps.toList i with
      | none => simp only [ixD, e] at h; exact h.2.elim
      | some d =>
        simp only [ixD, e] at h
        exact ix_str value slice pins s σ _ _ _ v u Q I rx ry ⟨z, i, d, rfl, rfl, sz h.1, e, k.here ok h.2 rfl⟩ hs
    | ref a =>
      obtain rfl : x = .ref a := r1
      cases em : w.M a with
      | none => simp only [ixD, em] at h
      | some m =>
        cases m with
        | lst ds =>
          simp only [ixD, em] at h
          cases e : atI ds i with
          | none => simp only [e] at h
          | some d =>
            simp only [e] at h
            obtain ⟨xs, hx, s1⟩ := (show ∃ xs, w.H a = some (.lst xs) ∧ RpL X.K w ds xs from ok.mo a _ em)
            obtain ⟨z, h1, h2⟩ := atI_rp s1 e
            exact ix_list value slice pins s σ _ _ _ v u Q I rx ry ⟨a, xs, i, z, rfl, rfl, SqL.of hx, h1, k.here ok h h2⟩ hs
        | _ => simp only [ixD, em] at h
    | _ => exact False.elim h
  | _ => exact False.elim h
theorem pd_ix (ha : PD c X a ta) (hb : PD c X b tb) (hs : PlainIx b := by exact fun _ _ => rfl) : PD c X (.Subscript a b pos) (dOp ixD ta tb) := PE_imp (pe_ix ixR_D ha hb hs) fun _ _ _ ⟨_, _, _, hH, a, h, k⟩ => op_imp hH a h k
def cut {α : Type} (xs : List α) (lo hi : Option Int) : List α := (xs.drop (HT.sIx xs.length 0 lo)).take (HT.sIx xs.length xs.length hi - HT.sIx xs.length 0 lo)
theorem cut_rp {K : PySem.W.Frag} {w : Wd} {ds : List D} {vs : List V} (lo hi : Option Int) (r : RpL K w ds vs) : RpL K w (cut ds lo hi) (cutV vs lo hi) := by
  unfold cut cutV
  rw [r.length]
  exact (r.drop _).take _
theorem cut_len {α : Type} (xs : List α) (lo hi : Option Int) : (cut xs lo hi).length ≤ xs.length := by
  unfold cut
  rw [List.length_take, List.length_drop]; omega
abbrev DO := DEnv → Mu → (Option Int → Mu → Prop) → Prop
def liftOp (K : PySem.W.Frag) (c : Wd) (t : DO) : TO := fun σ H Q => ∃ ρ w Q', w.H = H ∧ At K c w ρ σ ∧ t ρ w.M Q' ∧ ∀ o w', Q' o w'.M → Bh K w w' → Q o w'.H
abbrev PDO (c : Wd) (X : Cx) (e : Option Expr) (t : DO) : Prop := PO X e (liftOp X.K c t)
theorem PO_imp {e : Option Expr} {t t' : TO} (h : PO X e t) (i : ∀ σ H Q, t' σ H Q → t σ H Q) : PO X e t' := ⟨fun pins s σ H Q I q => h.run pins s σ H Q I (i σ H Q q)⟩
@[simp] def dNoPart : DO := fun _ M Q => Q none M
@[simp] def dPart (t : DE) : DO := fun ρ M Q => t ρ M fun d M1 => match d with | .int i => Q (some i) M1 | _ => False
theorem pdo_none : PDO c X none dNoPart := PO_imp po_none fun σ H Q ⟨ρ, w, Q', hH, a, h, k⟩ => hH ▸ k none w h (Bh.refl a.ok)
theorem pdo_some (h : PD c X e te) : PDO c X (some e) (dPart te) := PO_imp (po_some h) fun σ H Q ⟨ρ, w, Q', hH, a, h, k⟩ => ⟨ρ, w, _, hH, a, h, fun d w1 v q b1 r => by
  cases d with
  | int i => obtain rfl : v = .int i := r; exact ⟨i, rfl, k _ w1 q b1⟩
  | _ => exact q.elim⟩
@[simp] def slD : D → Option Int → Option Int → Mu → DK → Prop := fun x lo hi M Q => match x with
  | .lst ds => Q (.lst (cut ds lo hi)) M
  | .tup ds => Q (.tup (cut ds lo hi)) M
  | .str z => z.length ≤ 100000 ∧ Q (.str (cutS z lo hi)) M
  | .scr ns => Q (.lst (cut (ns.map D.int) lo hi)) M
  | _ => False
theorem ints_rp {K : PySem.W.Frag} {w : Wd} : ∀ ns : List Int, RpL K w (ns.map D.int) (ns.map V.int)
  | [] => rfl
  | n :: ns => ⟨.int n, ns.map V.int, rfl, rfl, ints_rp ns⟩
def liftSl (K : PySem.W.Frag) : V → Option Int → Option Int → Hp → VK → Prop := fun x lo hi H Q => ∃ w dx Q', w.H = H ∧ Ok K w ∧ Rp K w dx x ∧ slD dx lo hi w.M Q' ∧ Wv K w Q' Q
theorem slR_D : SlR X (liftSl X.K) := by
  intro pins s σ H x v vl vu lo hi sl Q I rx hs pl pu ⟨w, dx, Q', hH, ok, r1, h, k⟩
  subst hH
  cases dx with
  | lst ds =>
    obtain ⟨p, xs, rfl, l, s1⟩ := r1
    exact sl_list pins s σ _ _ v vl vu lo hi sl Q I rx hs pl pu ⟨p, xs, rfl, l.sq, fun q hq => k.new ok hq h (rp_lst ok hq (cut_rp lo hi s1))⟩
  | tup ds =>
    obtain ⟨p, xs, rfl, l, s1⟩ := r1
    refine sl_tupA pins s σ _ _ v vl vu lo hi sl Q I rx hs pl pu ⟨p, xs, rfl, l.sq, fun e => ?_, fun _ q hq => k.new ok hq h (rp_tup ok hq (cut_rp lo hi s1))⟩
    have hl := s1.length
    refine k.here ok h (show Rp X.K w (.tup (cut ds lo hi)) (.ref p) from ?_)
    have : cut ds lo hi = ds := by
      unfold cut
      rw [← hl, e.1, e.2, List.drop_zero, hl, Nat.sub_zero, List.take_length]
    rw [this]
    exact ⟨p, xs, rfl, l, s1⟩
  | str z =>
    obtain rfl : x = .str z := r1
    exact sl_str pins s σ _ _ v vl vu lo hi sl Q I rx hs pl pu ⟨z, rfl, sz h.1, k.here ok h.2 rfl⟩
  | scr ns =>
    obtain ⟨ad, rfl, h1⟩ := r1
    have hq : SqL X.K w.H ad (ns.map V.int) := h1.elim (fun z => .inl z.2) fun z => z w.H
    exact sl_list pins s σ _ _ v vl vu lo hi sl Q I rx hs pl pu ⟨ad, ns.map V.int, rfl, hq, fun q hq => k.new ok hq h (rp_lst ok hq (cut_rp lo hi (ints_rp ns)))⟩
  | _ => exact False.elim h
@[simp] def dSl (te : DE) (tl th : DO) : DE := fun ρ M Q => te ρ M fun x M1 => tl ρ M1 fun l M2 => th ρ M2 fun u M3 => slD x l u M3 Q
theorem pd_slice {lo hi : Option Expr} {tl th : DO} {p2 : Pos} (he : PD c X e te) (hl : PDO c X lo tl) (hu : PDO c X hi th) : PD c X (.Subscript e (.Slice lo hi none p2) pos) (dSl te tl th) :=
  PE_imp (pe_slice slR_D he hl hu) fun σ H Q ⟨ρ, w, Q', hH, a, h, k⟩ => ⟨ρ, w, _, hH, a, h, fun d w1 v q b1 r => ⟨ρ, w1, _, rfl, a.next b1, q, fun l w2 q2 b2 => ⟨ρ, w2, _, rfl, (a.next b1).next b2, q2, fun u w3 q3 b3 =>
    ⟨w3, d, Q', rfl, b3.ok, (r.mono b2.kp).mono b3.kp, q3, k.back ((b1.trans b2).trans b3)⟩⟩⟩⟩
end
end DL
/-! The data layer, part d: statements, loops, comprehensions, defs. -/
namespace DL
open PySem L2

structure DEnds where
  nx : DEnv → Mu → Prop
  rt : DK
  bk : DEnv → Mu → Prop := fun _ _ => False
  ct : DEnv → Mu → Prop := fun _ _ => False
abbrev DS := DEnds → DEnv → Mu → Prop
structure WE (K : PySem.W.Frag) (c w : Wd) (D' : DEnds) (D : Ends) : Prop where
  nx : ∀ ρ' w' σ', D'.nx ρ' w'.M → Bh K w w' → At K c w' ρ' σ' → D.nx σ' w'.H
  rt : Wv K w D'.rt D.rt
  bk : ∀ ρ' w' σ', D'.bk ρ' w'.M → Bh K w w' → At K c w' ρ' σ' → D.bk σ' w'.H
  ct : ∀ ρ' w' σ', D'.ct ρ' w'.M → Bh K w w' → At K c w' ρ' σ' → D.ct σ' w'.H
theorem WE.back {K : PySem.W.Frag} {c w w1 : Wd} {D' : DEnds} {D : Ends} (k : WE K c w D' D) (b : Bh K w w1) : WE K c w1 D' D where
  nx := fun ρ' w' σ' q b' a => k.nx ρ' w' σ' q (b.trans b') a
  rt := k.rt.back b
  bk := fun ρ' w' σ' q b' a => k.bk ρ' w' σ' q (b.trans b') a
  ct := fun ρ' w' σ' q b' a => k.ct ρ' w' σ' q (b.trans b') a
def liftS (K : PySem.W.Frag) (c : Wd) (t : DS) : TS := fun D σ H => ∃ ρ w D', w.H = H ∧ At K c w ρ σ ∧ t D' ρ w.M ∧ WE K c w D' D
abbrev PDS (c : Wd) (X : Cx) (st : Stmt) (t : DS) : Prop := PS X st (liftS X.K c t)
abbrev PDSs (c : Wd) (X : Cx) (st : List Stmt) (t : DS) : Prop := PSs X st (liftS X.K c t)
theorem PS_imp {X : Cx} {st : Stmt} {t t' : TS} (h : PS X st t) (i : ∀ D σ H, t' D σ H → t D σ H) : PS X st t' := ⟨fun pins s σ H D I q => h.run pins s σ H D I (i D σ H q)⟩
theorem PSs_imp {X : Cx} {st : List Stmt} {t t' : TS} (h : PSs X st t) (i : ∀ D σ H, t' D σ H → t D σ H) : PSs X st t' := ⟨fun pins s σ H D I q => h.run pins s σ H D I (i D σ H q)⟩
section
variable {X : Cx} {c : Wd} {st : Stmt} {rest body : List Stmt} {t u : DS} {e : Expr} {te : DE} {pos : Pos}
@[simp] def dNext : DS := fun D ρ M => D.nx ρ M
@[simp] def dSeq (t u : DS) : DS := fun D ρ M => t { nx := u D, rt := D.rt, bk := D.bk, ct := D.ct } ρ M
theorem pdss_nil : PDSs c X [] dNext := PSs_imp pss_nil fun D σ H ⟨ρ, w, D', hH, a, h, k⟩ => hH ▸ k.nx ρ w σ h (Bh.refl a.ok) a
theorem pdss_cons (h1 : PDS c X st t) (h2 : PDSs c X rest u) : PDSs c X (st :: rest) (dSeq t u) := PSs_imp (pss_cons h1 h2) fun D σ H ⟨ρ, w, D', hH, a, h, k⟩ =>
  ⟨ρ, w, _, hH, a, h, { nx := fun ρ' w' σ' q b a' => ⟨ρ', w', D', rfl, a', q, k.back b⟩, rt := k.rt, bk := k.bk, ct := k.ct }⟩
theorem pdss_one (h1 : PDS c X st t) : PDSs c X [st] t := PSs_imp (pss_one h1) fun D σ H h => h
@[simp] def dRet (te : DE) : DS := fun D ρ M => te ρ M D.rt
theorem pds_ret (he : PD c X e te) : PDS c X (.Return (some e) pos) (dRet te) := PS_imp (ps_ret he) fun D σ H ⟨ρ, w, D', hH, a, h, k⟩ => ⟨ρ, w, D'.rt, hH, a, h, k.rt⟩
@[simp] def dRetN : DS := fun D ρ M => D.rt .non M
theorem pds_retN : PDS c X (.Return none pos) dRetN := PS_imp ps_retN fun D σ H ⟨ρ, w, D', hH, a, h, k⟩ => hH ▸ k.rt.here a.ok h rfl
@[simp] def dDrop (te : DE) : DS := fun D ρ M => te ρ M fun _ M1 => D.nx ρ M1
theorem pds_expr (he : PD c X e te) (hs : swapsWith e none pos.line X.env = pure false := by rfl) : PDS c X (.Expr e pos) (dDrop te) := PS_imp (ps_expr he hs) fun D σ H ⟨ρ, w, D', hH, a, h, k⟩ =>
  ⟨ρ, w, _, hH, a, h, fun d w' v q b r => k.nx ρ w' σ q b (a.next b)⟩
theorem pds_pass : PDS c X (.Pass pos) dNext := PS_imp ps_pass fun D σ H ⟨ρ, w, D', hH, a, h, k⟩ => hH ▸ k.nx ρ w σ h (Bh.refl a.ok) a
@[simp] def dBrk : DS := fun D ρ M => D.bk ρ M
@[simp] def dCnt : DS := fun D ρ M => D.ct ρ M
theorem pds_break : PDS c X (.Break pos) dBrk := PS_imp ps_break fun D σ H ⟨ρ, w, D', hH, a, h, k⟩ => hH ▸ k.bk ρ w σ h (Bh.refl a.ok) a
theorem pds_continue : PDS c X (.Continue pos) dCnt := PS_imp ps_continue fun D σ H ⟨ρ, w, D', hH, a, h, k⟩ => hH ▸ k.ct ρ w σ h (Bh.refl a.ok) a
@[simp] def dIfS (t : DT) (u v : DS) : DS := fun D ρ M => t ρ M fun k M1 => if k = true then u D ρ M1 else v D ρ M1
theorem pds_if {tc : Expr} {p q : List Stmt} {tt : DT} (hc : PDT c X tc tt) (ha : PDSs c X p t) (hb : PDSs c X q u) : PDS c X (.If tc p q pos) (dIfS tt t u) := PS_imp (ps_if hc ha hb) fun D σ H ⟨ρ, w, D', hH, a, h, k⟩ =>
  ⟨ρ, w, _, hH, a, h, fun z w1 q b1 => by
    cases z with
    | true => exact iteT ⟨ρ, w1, D', rfl, a.next b1, q, k.back b1⟩
    | false => exact iteF ⟨ρ, w1, D', rfl, a.next b1, q, k.back b1⟩⟩

/-! ### targets -/
abbrev DG := D → DEnv → Mu → (DEnv → Mu → Prop) → Prop
/-- the same slots but for some -/
def Ag (vs : List Nat) (σ σ' : St) : Prop := σ'.length = σ.length ∧ ∀ i : Nat, i ∉ vs → σ'[i]? = σ[i]?
theorem Ag.refl (vs : List Nat) (σ : St) : Ag vs σ σ := ⟨rfl, fun _ _ => rfl⟩
theorem Ag.trans {vs : List Nat} {σ σ1 σ2 : St} (a : Ag vs σ σ1) (b : Ag vs σ1 σ2) : Ag vs σ σ2 := ⟨b.1.trans a.1, fun i h => (b.2 i h).trans (a.2 i h)⟩
theorem Ag.set {vs : List Nat} {σ : St} {i : Nat} {o : Option V} (h : i ∈ vs) : Ag vs σ (σ.set i o) := ⟨List.length_set, fun j hj => List.getElem?_set_ne (fun (e : i = j) => hj (by rw [← e]; exact h))⟩
theorem wipe_ag {vs : List Nat} {σ σ' : St} (h : Ag vs σ σ') : wipe σ' vs = wipe σ vs := by
  apply List.ext_getElem?
  intro i
  have hl := h.1
  by_cases hi : i ∈ vs
  · have hv : ∀ (τ : St), ∀ us : List Nat, i ∈ us → i < τ.length → (wipe τ us)[i]? = some none := by
      intro τ us
      induction us with
      | nil => intro z; cases z
      | cons u us ih =>
        intro z hlt
        unfold wipe
        by_cases e : u = i
        · subst e
          rw [List.getElem?_set_self (by rw [wipe_length]; exact hlt)]
        · rw [List.getElem?_set_ne e]
          rcases List.mem_cons.mp z with z | z
          · exact absurd z.symm e
          · exact ih z hlt
    by_cases hlt : i < σ.length
    · rw [hv σ' vs hi (by omega), hv σ vs hi hlt]
    · rw [List.getElem?_eq_none (by rw [wipe_length]; omega), List.getElem?_eq_none (by rw [wipe_length]; omega)]
  · rw [wipe_out hi, wipe_out hi, h.2 i hi]
theorem wipe_wipe {vs : List Nat} {σ : St} : Ag vs σ (wipe σ vs) := ⟨wipe_length σ vs, fun i hi => wipe_out hi⟩
def liftG (K : PySem.W.Frag) (c : Wd) (vs : List Nat) (g : DG) : TG := fun v σ H Q => ∃ d ρ w Q', w.H = H ∧ At K c w ρ σ ∧ Rp K w d v ∧ g d ρ w.M Q' ∧ ∀ ρ' w' σ', Q' ρ' w'.M → Bh K w w' → At K c w' ρ' σ' → Ag vs σ σ' → Q σ' w'.H
abbrev PDG (c : Wd) (X : Cx) (vs : List Nat) (e : Expr) (g : DG) : Prop := PG X e (liftG X.K c vs g)
theorem PG_imp {e : Expr} {g g' : TG} (h : PG X e g) (i : ∀ v σ H Q, g' v σ H Q → g v σ H Q) : PG X e g' := ⟨fun pins s σ H v u Q I r q => h.run pins s σ H v u Q I r (i _ _ _ _ q)⟩
@[simp] def gNm (i : Nat) : DG := fun d ρ M Q => Q (ρ.set i (some d)) M
variable {vs : List Nat}
theorem pdg_name {i : Nat} {x : Str} (hN : X.N.Nodup) (hi : X.N[i]? = some x := by rfl) (hx : Loc X.env.scope x := by first | exact Or.inl rfl | exact Or.inr rfl) (hf : X.fn x = true ∨ X.env.scope.names.lookup x = some .local := by first | exact .inl rfl | exact .inr rfl) (hvs : i ∈ vs := by simp) : PDG c X vs (.Name x pos) (gNm i) :=
  PG_imp (pg_name hN hi hx hf) fun v σ H Q ⟨d, ρ, w, Q', hH, a, r, h, k⟩ => hH ▸ k _ w _ h (Bh.refl a.ok) (a.set r) (Ag.set hvs)
abbrev DGs := List D → DEnv → Mu → (DEnv → Mu → Prop) → Prop
def liftGs (K : PySem.W.Frag) (c : Wd) (us : List Nat) (g : DGs) : TGs := fun vs σ H Q => ∃ ds ρ w Q', w.H = H ∧ At K c w ρ σ ∧ RpL K w ds vs ∧ g ds ρ w.M Q' ∧ ∀ ρ' w' σ', Q' ρ' w'.M → Bh K w w' → At K c w' ρ' σ' → Ag us σ σ' → Q σ' w'.H
abbrev PDGs (c : Wd) (X : Cx) (vs : List Nat) (es : List Expr) (g : DGs) : Prop := PGs X es (liftGs X.K c vs g)
theorem PGs_imp {es : List Expr} {g g' : TGs} (h : PGs X es g) (i : ∀ v σ H Q, g' v σ H Q → g v σ H Q) : PGs X es g' := ⟨fun pins s σ H v u Q I r q => h.run pins s σ H v u Q I r (i _ _ _ _ q)⟩
@[simp] def gsNil : DGs := fun ds ρ M Q => match ds with | [] => Q ρ M | _ => False
@[simp] def gsCons (g : DG) (k : DGs) : DGs := fun ds ρ M Q => match ds with | d :: r => g d ρ M (fun ρ' M' => k r ρ' M' Q) | [] => False
theorem pdgs_nil : PDGs c X vs [] gsNil := PGs_imp pgs_nil fun us σ H Q ⟨ds, ρ, w, Q', hH, a, r, h, k⟩ => by
  cases ds with
  | nil => exact ⟨r, hH ▸ k ρ w σ h (Bh.refl a.ok) a (Ag.refl _ _)⟩
  | cons d ds => exact h.elim
theorem pdgs_cons {es : List Expr} {g : DG} {gs : DGs} (h1 : PDG c X vs e g) (h2 : PDGs c X vs es gs) (hs : (assignEach (e :: es) X.env).map (·.2) = assign e X.env :: (assignEach es X.env).map (·.2) := by rfl) : PDGs c X vs (e :: es) (gsCons g gs) :=
  PGs_imp (pgs_cons h1 h2 hs) fun us σ H Q ⟨ds, ρ, w, Q', hH, a, r, h, k⟩ => by
  cases ds with
  | nil => exact h.elim
  | cons d ds =>
    obtain ⟨x, q, rfl, r1, r2⟩ := r
    exact ⟨x, q, rfl, d, ρ, w, _, hH, a, r1, h, fun ρ' w' σ' q' b a' g1 => ⟨ds, ρ', w', Q', rfl, a', r2.mono b.kp, q', fun ρ'' w'' σ'' q'' b' a'' g2 => k ρ'' w'' σ'' q'' (b.trans b') a'' (g1.trans g2)⟩⟩
@[simp] def gTp (g : DGs) (n : Nat) : DG := fun d ρ M Q => match d with | .tup ds => ds.length = n ∧ g ds ρ M Q | _ => False
theorem pdg_tup {es : List Expr} {k : Nat} {g : DGs} {n : Nat} (hc : X.calm = true) (h : PDGs c X vs es g) (hn : (assignEach es X.env).length = n := by rfl) (hst : (assignEach es X.env).findIdx? (·.1) = none := by rfl) : PDG c X vs (.Tuple es k pos) (gTp g n) :=
  PG_imp (pg_tup hc h hn hst) fun v σ H Q ⟨d, ρ, w, Q', hH, a, r, h, k⟩ => by
  cases d with
  | tup ds =>
    obtain ⟨p, xs, rfl, l, s1⟩ := r
    subst hH
    exact ⟨p, xs, rfl, l.sq, by rw [s1.length]; exact h.1, ds, ρ, w, Q', rfl, a, s1, h.2, k⟩
  | _ => exact h.elim
@[simp] def dAsg (te : DE) (g : DG) : DS := fun D ρ M => te ρ M fun d M1 => g d ρ M1 D.nx
theorem pds_asg {tg : Expr} {g : DG} (he : PD c X e te) (hg : PDG c X vs tg g) (hs : swapsWithSole [tg] e pos.line X.env = pure false := by rfl) (hw : swappedStores [tg] e X.env = pure none := by rfl) (h1 : (assignEach [tg] X.env).map (·.2) = [assign tg X.env] := by rfl) : PDS c X (.Assign [tg] e pos) (dAsg te g) :=
  PS_imp (ps_asg he hg hs hw h1) fun D σ H ⟨ρ, w, D', hH, a, h, k⟩ => ⟨ρ, w, _, hH, a, h, fun d w1 v q b r => ⟨d, ρ, w1, D'.nx, rfl, a.next b, r, q, fun ρ' w' σ' q' b' a' _ => k.nx ρ' w' σ' q' (b.trans b') a'⟩⟩
theorem pds_set {i : Nat} {x : Str} {pos' : Pos} (hN : X.N.Nodup) (he : PD c X e te) (hi : X.N[i]? = some x := by rfl) (hx : Loc X.env.scope x := by first | exact Or.inl rfl | exact Or.inr rfl) (hs : swapsWith e (some (.Name x pos')) pos.line X.env = pure false := by rfl) (hf : X.fn x = true ∨ X.env.scope.names.lookup x = some .local := by first | exact .inl rfl | exact .inr rfl) :
    PDS c X (.Assign [.Name x pos'] e pos) (dAsg te (gNm i)) :=
  PS_imp (ps_set hN hi hx he hs hf) fun D σ H ⟨ρ, w, D', hH, a, h, k⟩ => ⟨ρ, w, _, hH, a, h, fun d w1 v q b r => k.nx _ w1 _ q b ((a.next b).set r)⟩
/-- a, b = e1, e2 -/
@[simp] def dPar (i j : Nat) (ta : DA) : DS := fun D ρ M => ta ρ M fun ds M1 => match ds with | [d, e] => D.nx ((ρ.set i (some d)).set j (some e)) M1 | _ => False

/-! ### what is walked -/
abbrev DI := DEnv → Mu → (List D → Mu → Prop) → Prop
/-- J yields these data, one after another, while what is free stays -/
def IsIt (K : PySem.W.Frag) (w : Wd) (ds : List D) (J : It) : Prop := ∀ w', Kp w w' → Ok K w' →
  (∀ i d, ds[i]? = some d → J.go i w'.H ∧ ∀ x H'', J.yld i w'.H x H'' → Bh K w' (w'.at H'') ∧ Rp K (w'.at H'') d x) ∧ J.stop ds.length w'.H
def liftI (K : PySem.W.Frag) (c : Wd) (t : DI) : TI := fun σ H R => ∃ ρ w Q', w.H = H ∧ At K c w ρ σ ∧ t ρ w.M Q' ∧ ∀ ds w' J, Q' ds w'.M → Bh K w w' → IsIt K w' ds J → R J w'.H
abbrev PDI (c : Wd) (X : Cx) (tg iter : Expr) (t : DI) : Prop := PI X tg iter (liftI X.K c t)
theorem PI_imp {tg e : Expr} {t t' : TI} (h : PI X tg e t) (i : ∀ σ H Q, t' σ H Q → t σ H Q) : PI X tg e t' := ⟨fun pins s σ H Q I q => h.run pins s σ H Q I (i σ H Q q)⟩
theorem isIt_l {K : PySem.W.Frag} {w : Wd} {ds : List D} {a : Addr} {xs : List V} (h : LsAt w a xs) (r : RpL K w ds xs) : IsIt K w ds (Itl K a) := fun w' k ok => by
  have h' := k.lst h
  have r' := r.mono k
  have hl := r'.length
  refine ⟨fun i d e => ?_, ⟨xs, h'.sq, by omega⟩⟩
  obtain ⟨v, e1, r1⟩ := r'.at e
  refine ⟨⟨xs, v, h'.sq, e1⟩, fun x H'' y => ?_⟩
  obtain ⟨rfl, y⟩ := y
  have := y xs h'.sq
  rw [e1] at this
  cases this
  exact ⟨Bh.refl ok, r1⟩
theorem isIt_t {K : PySem.W.Frag} {w : Wd} {ds : List D} {a : Addr} {xs : List V} (h : TuAt K w a xs) (r : RpL K w ds xs) : IsIt K w ds (Itt K a) := fun w' k ok => by
  have h' := h.mono k
  have r' := r.mono k
  have hl := r'.length
  refine ⟨fun i d e => ?_, ⟨xs, h'.sq, by omega⟩⟩
  obtain ⟨v, e1, r1⟩ := r'.at e
  refine ⟨⟨xs, v, h'.sq, e1⟩, fun x H'' y => ?_⟩
  obtain ⟨rfl, y⟩ := y
  have := y xs h'.sq
  rw [e1] at this
  cases this
  exact ⟨Bh.refl ok, r1⟩
def signs (z : Str) : List D := z.cps.toList.map fun c => .str ⟨#[c]⟩
theorem isIt_s {K : PySem.W.Frag} {w : Wd} {z : Str} : IsIt K w (signs z) (Its z) := fun w' k ok => by
  refine ⟨fun i d e => ?_, by show z.cps.size ≤ (signs z).length; simp [signs]⟩
  unfold signs at e
  rw [List.getElem?_map] at e
  cases ec : z.cps.toList[i]? with
  | none => rw [ec] at e; cases e
  | some ch =>
    rw [ec] at e
    cases e
    have ha : z.cps[i]? = some ch := by simpa using ec
    refine ⟨?_, fun x H'' y => ?_⟩
    · exact (Array.getElem?_eq_some_iff.mp ha).1
    · obtain ⟨rfl, ch', h1, rfl⟩ := y
      rw [ha] at h1
      cases h1
      exact ⟨Bh.refl ok, rfl⟩
theorem isIt_r {K : PySem.W.Frag} {w : Wd} {lo : Int} {n : Nat} : IsIt K w ((List.range n).map fun (i : Nat) => .int (lo + i)) (Itr lo n) := fun w' k ok => by
  refine ⟨fun i d e => ?_, by show n ≤ _; simp⟩
  rw [List.getElem?_map] at e
  by_cases hi : i < n
  · rw [List.getElem?_range hi] at e
    cases e
    refine ⟨hi, fun x H'' y => ?_⟩
    obtain ⟨rfl, rfl⟩ := y
    exact ⟨Bh.refl ok, rfl⟩
  · rw [List.getElem?_eq_none (by simp; omega)] at e
    cases e
/-- a list, a tuple, a text: what is walked -/
@[simp] def dIt (te : DE) : DI := fun ρ M Q => te ρ M fun d M1 => match d with
  | .lst ds => Q ds M1
  | .tup ds => Q ds M1
  | .str z => Q (signs z) M1
  | _ => False
theorem pi_any {tg : Expr} {tl : TE} (hl : PE X e tl) : PI X tg e (fun σ H R => tl σ H fun x H1 => (∃ a, x = .ref a ∧ (∃ xs, SqL X.K H1 a xs) ∧ R (Itl X.K a) H1) ∨ (∃ a, x = .ref a ∧ (∃ xs, SqT X.K H1 a xs) ∧ R (Itt X.K a) H1) ∨ ∃ z, x = .str z ∧ R (Its z) H1) := by
  refine ⟨fun pins s σ H R I h => ?_⟩
  refine thn (hl.run pins s σ H _ I h) fun v s1 ⟨x, H1, I1, r1, q1⟩ => ?_
  rcases q1 with ⟨a, e, ⟨xs, hq⟩, q⟩ | ⟨a, e, ⟨xs, hq⟩, q⟩ | ⟨z, ex, q⟩
  · subst e
    cases r1
    obtain ⟨its, rv, p, hz⟩ := I1.list hq
    refine wpAny_pyIter_list p.isList ?_
    refine ⟨s1.heap.objs.size, [s1.heap.objs.size], _, _, H1, rfl, I1.kept (t' := s1.toks) fun b o e => Heap.get?_push_of_some _ e, turn_list a _, ⟨_, Heap.get?_push_size _ rfl, rfl, rfl⟩, fun b hb => ?_, q⟩
    have e : b = s1.heap.objs.size := by simpa using hb
    subst e
    exact I1.fpOk (Nat.le_refl _) (I1.hok.fresh (Nat.le_refl _))
  · subst e
    cases r1
    obtain ⟨its, rv, p, hz⟩ := I1.tuple hq
    refine wpAny_pyIter_tuple (show s1.heap.IsTuple a its.toArray from p) ?_
    refine ⟨s1.heap.objs.size, [s1.heap.objs.size], _, _, H1, rfl, I1.kept (t' := s1.toks) fun b o e => Heap.get?_push_of_some _ e, turn_tuple a _, ⟨_, Heap.get?_push_size _ rfl, rfl, rfl⟩, fun b hb => ?_, q⟩
    have e : b = s1.heap.objs.size := by simpa using hb
    subst e
    exact I1.fpOk (Nat.le_refl _) (I1.hok.fresh (Nat.le_refl _))
  · subst ex
    obtain ⟨t, rfl⟩ := r1
    cases ha : z.cps.all (· < 128)
    · exact PySem.wpAny_pyIter_wide ha (pi_one (tk := s1.toks) I1 _ (turn_str _ z t "str_iterator" (.inr rfl)) ⟨_, Heap.get?_push_size _ rfl, rfl, rfl⟩ q)
    · exact PySem.wpAny_pyIter_ascii ha (pi_one (tk := s1.toks) I1 _ (turn_str _ z t "str_ascii_iterator" (.inl rfl)) ⟨_, Heap.get?_push_size _ rfl, rfl, rfl⟩ q)
theorem pdi_any {tg : Expr} (he : PD c X e te) : PDI c X tg e (dIt te) := PI_imp (pi_any he) fun σ H R ⟨ρ, w, Q', hH, a, h, k⟩ => ⟨ρ, w, _, hH, a, h, fun d w1 v q b r => by
  cases d with
  | lst ds => obtain ⟨p, xs, rfl, l, s1⟩ := r; exact .inl ⟨p, rfl, ⟨xs, l.sq⟩, k ds w1 _ q b (isIt_l l s1)⟩
  | tup ds => obtain ⟨p, xs, rfl, l, s1⟩ := r; exact .inr (.inl ⟨p, rfl, ⟨xs, l.sq⟩, k ds w1 _ q b (isIt_t l s1)⟩)
  | str z => obtain rfl : v = .str z := r; exact .inr (.inr ⟨z, rfl, k _ w1 _ q b isIt_s⟩)
  | _ => exact q.elim⟩
end
end DL
/-! The data layer, part e: loops, comprehensions, defs and calls. -/
namespace DL
open PySem L2
section
variable {X : Cx} {c : Wd} {st : Stmt} {rest body : List Stmt} {t u tb : DS} {e : Expr} {te : DE} {pos : Pos} {ti : DI} {g : DG} {vs : List Nat}
/-! ### for -/
def fori (g : DG) (body : DS) : List D → DS
  | [] => fun D ρ M => D.nx ρ M
  | x :: xs => fun D ρ M => g x ρ M fun ρ1 M1 => body { nx := fori g body xs D, rt := D.rt, bk := D.nx, ct := fori g body xs D } ρ1 M1
@[simp] def dFor (ti : DI) (g : DG) (body : DS) : DS := fun D ρ M => ti ρ M fun ds M1 => fori g body ds D ρ M1
theorem for_imp {K : PySem.W.Frag} {D : Ends} {σ : St} {H : Hp} (h : liftS K c (dFor ti g tb) D σ H) : tFor (liftI K c ti) (liftG K c vs g) (liftS K c tb) D σ H := by
  obtain ⟨ρ, w, D', hH, a, h, k⟩ := h
  refine ⟨ρ, w, _, hH, a, h, fun ds w1 J q b1 it => ?_⟩
  refine ⟨fun i m σ' H' => m = ds.length - i ∧ i ≤ ds.length ∧ ∃ ρ' w', w'.H = H' ∧ At K c w' ρ' σ' ∧ Bh K w1 w' ∧ fori g tb (ds.drop i) D' ρ' w'.M, ⟨ds.length, by simp, Nat.zero_le _, ρ, w1, rfl, a.next b1, Bh.refl b1.ok, by rw [List.drop_zero]; exact q⟩, ?_⟩
  rintro i m σ' H' ⟨rfl, hi, ρ', w', rfl, a', b', hf⟩
  obtain ⟨hgo, hst⟩ := it w' b'.kp b'.ok
  by_cases hlt : i < ds.length
  · right
    have e0 : ds.drop i = ds[i] :: ds.drop (i + 1) := List.drop_eq_getElem_cons hlt
    have e1 : ds[i]? = some ds[i] := List.getElem?_eq_getElem hlt
    rw [e0] at hf
    obtain ⟨g1, g2⟩ := hgo i _ e1
    refine ⟨g1, fun σ2 H2 => ∃ ρ2 w2, w2.H = H2 ∧ At K c w2 ρ2 σ2 ∧ Bh K w1 w2 ∧ fori g tb (ds.drop (i + 1)) D' ρ2 w2.M, fun σ2 H2 ⟨ρ2, w2, h1, h2, h3, h4⟩ => ⟨ds.length - (i + 1), by omega, rfl, hlt, ρ2, w2, h1, h2, h3, h4⟩, fun x H'' y => ?_⟩
    obtain ⟨b2, r2⟩ := g2 x H'' y
    refine ⟨ds[i], ρ', w'.at H'', _, rfl, a'.next b2, r2, hf, fun ρ3 w3 σ3 q3 b3 a3 _ => ?_⟩
    refine ⟨ρ3, w3, _, rfl, a3, q3, ?_⟩
    have b03 : Bh K w1 w3 := (b'.trans b2).trans b3
    exact { nx := fun ρ4 w4 σ4 q4 b4 a4 => ⟨ρ4, w4, rfl, a4, b03.trans b4, q4⟩
            rt := k.rt.back (b1.trans b03)
            bk := fun ρ4 w4 σ4 q4 b4 a4 => k.nx ρ4 w4 σ4 q4 ((b1.trans b03).trans b4) a4
            ct := fun ρ4 w4 σ4 q4 b4 a4 => ⟨ρ4, w4, rfl, a4, b03.trans b4, q4⟩ }
  · left
    have e : i = ds.length := by omega
    subst e
    rw [List.drop_length] at hf
    exact ⟨hst, k.nx ρ' w' σ' hf (b1.trans b') a'⟩
theorem pds_for {tg iter : Expr} (hp : PassesOwn (model X.prog X.w) X.A X.env X.xe) (hc : X.calm = true) (hi : PDI c X tg iter ti) (hg : PDG c X vs tg g) (hb : PDSs c X body tb) (hs : ∀ x, foldedSetIterable iter X.env x = pure x := by intro _; rfl) :
    PDS c X (.For tg iter body [] pos) (dFor ti g tb) := PS_imp (ps_for hp hc hi hg hb hs) fun D σ H h => for_imp h

/-! ### comprehensions -/
def wipeD (ρ : DEnv) : List Nat → DEnv
  | [] => ρ
  | v :: vs => (wipeD ρ vs).set v none
theorem wipeD_len (ρ : DEnv) : ∀ vs : List Nat, (wipeD ρ vs).length = ρ.length
  | [] => rfl
  | v :: vs => by unfold wipeD; rw [List.length_set, wipeD_len ρ vs]
theorem wipeD_some {ρ : DEnv} {i : Nat} {x : D} : ∀ {vs : List Nat}, (wipeD ρ vs)[i]? = some (some x) → ρ[i]? = some (some x) ∧ i ∉ vs
  | [], h => ⟨h, by simp⟩
  | v :: vs, h => by
    unfold wipeD at h
    by_cases hi : v = i
    · subst hi
      by_cases hv : v < (wipeD ρ vs).length
      · rw [List.getElem?_set_self hv] at h; cases h
      · rw [List.getElem?_eq_none (by simpa using hv)] at h; cases h
    · rw [List.getElem?_set_ne hi] at h
      obtain ⟨h1, h2⟩ := wipeD_some h
      exact ⟨h1, by simp only [List.mem_cons, not_or]; exact ⟨fun e => hi e.symm, h2⟩⟩
theorem RE.wipe {K : PySem.W.Frag} {w : Wd} {ρ : DEnv} {σ : St} (r : RE K w ρ σ) (vs : List Nat) : RE K w (wipeD ρ vs) (wipe σ vs) := ⟨by rw [wipe_length, wipeD_len]; exact r.1, fun i d e => by
  obtain ⟨h1, h2⟩ := wipeD_some e
  obtain ⟨v, h3, h4⟩ := r.2 i d h1
  exact ⟨v, by rw [wipe_out h2]; exact h3, h4⟩⟩
def compi (g : DG) (tt : DT) (te : DE) (ρ : DEnv) : List D → List D → Mu → DK → Prop
  | [], acc, M, Q => Q (.lst acc) M
  | x :: xs, acc, M, Q => g x ρ M fun ρ1 M1 => tt ρ1 M1 fun b M2 => if b = true then te ρ1 M2 fun d M3 => acc.length < 100000 ∧ compi g tt te ρ xs (acc ++ [d]) M3 Q else compi g tt te ρ xs acc M2 Q
@[simp] def dLc (ti : DI) (g : DG) (tt : DT) (te : DE) (vs : List Nat) : DE := fun ρ M Q => ti ρ M fun ds M1 => compi g tt te (wipeD ρ vs) ds [] M1 Q
/-- the world while a list at L is made -/
def mk (w : Wd) (L : Addr) (xs : List V) : Wd := { hd := upd w.hd L (.lst xs), M := w.M, H := upd w.H L (.lst xs) }
theorem fr_mk {w : Wd} {L a : Addr} {xs : List V} : Fr (mk w L xs) a ↔ Fr w a ∧ a ≠ L := by
  unfold Fr mk
  constructor
  · rintro ⟨h1, h2⟩
    have hne : a ≠ L := fun e => by subst e; simp [upd] at h2
    exact ⟨⟨h1, by simpa [upd, hne] using h2⟩, hne⟩
  · rintro ⟨⟨h1, h2⟩, hne⟩
    exact ⟨h1, by simpa [upd, hne] using h2⟩
/-- the list is begun, or grown -/
theorem kp_mk {w : Wd} {L : Addr} {xs : List V} (h : w.H L = none ∨ ∃ u, w.hd L = some u) : Kp w (mk w L xs) := Kp.of fun a u hf e => by
  have hne : a ≠ L := fun z => by
    subst z
    rcases h with h | ⟨u', h⟩
    · rw [e] at h; cases h
    · rw [hf.2] at h; cases h
  exact ⟨fr_mk.mpr ⟨hf, hne⟩, by show upd w.H L _ a = _; rw [upd_ne hne]; exact e⟩
theorem ok_mk {K : PySem.W.Frag} {w : Wd} {L : Addr} {xs : List V} (o : Ok K w) (h : w.H L = none ∨ ∃ u, w.hd L = some u) : Ok K (mk w L xs) := by
  have hM : w.M L = none := by
    rcases h with h | ⟨u', h⟩
    · exact (o.fresh h).1
    · cases e : w.M L with
      | none => rfl
      | some m => have := o.ap L m e; rw [h] at this; cases this
  refine ⟨fun a m e => (o.mo a m e).mono (kp_mk h) ?_, fun a u e => ?_, fun a m e => ?_⟩
  · have hne : a ≠ L := fun z => by subst z; rw [show (mk w a xs).M a = w.M a from rfl, hM] at e; cases e
    show upd w.H L _ a = _; rw [upd_ne hne]
  · by_cases z : a = L
    · subst z
      have : (mk w a xs).hd a = some (.lst xs) := upd_same
      rw [this] at e; cases e
      exact upd_same
    · have e' : w.hd a = some u := by
        have q : (mk w L xs).hd a = w.hd a := upd_ne z
        rw [← q]; exact e
      show upd w.H L _ a = _; rw [upd_ne z]; exact o.hid a u e'
  · have hne : a ≠ L := fun z => by subst z; rw [show (mk w a xs).M a = w.M a from rfl, hM] at e; cases e
    show upd w.hd L _ a = _; rw [upd_ne hne]; exact o.ap a m e
theorem comp_imp {K : PySem.W.Frag} {tt : DT} {us : List Nat} (hsub : ∀ i ∈ us, i ∈ vs) {σ : St} {H : Hp} {Q : VK} (h : lift K c (dLc ti g tt te vs) σ H Q) : tLc (liftI K c ti) (liftG K c us g) (liftT K c tt) (lift K c te) vs σ H Q := by
  obtain ⟨ρ, w, Q', hH, a, h, k⟩ := h
  refine ⟨ρ, w, _, hH, a, h, fun ds w1 J q b1 it L hL => ?_⟩
  have a1 := a.next b1
  have fL := b1.ok.fresh hL
  refine ⟨fun i m H' => m = ds.length - i ∧ i ≤ ds.length ∧ ∃ w' acc xs, w'.H = H' ∧ w'.hd = upd w1.hd L (.lst xs) ∧ Kp w1 w' ∧ Ok K w' ∧ RpL K w' acc xs ∧ compi g tt te (wipeD ρ vs) (ds.drop i) acc w'.M Q',
    ⟨ds.length, by simp, Nat.zero_le _, mk w1 L [], [], [], rfl, rfl, kp_mk (.inl hL), ok_mk b1.ok (.inl hL), rfl, by rw [List.drop_zero]; exact q⟩, ?_⟩
  rintro i m H' ⟨rfl, hi, w', acc, xs, rfl, hhd, kp', ok', racc, hf⟩
  have hdL : w'.hd L = some (.lst xs) := by rw [hhd]; exact upd_same
  obtain ⟨hgo, hst⟩ := it w' kp' ok'
  by_cases hlt : i < ds.length
  · right
    have e0 : ds.drop i = ds[i] :: ds.drop (i + 1) := List.drop_eq_getElem_cons hlt
    have e1 : ds[i]? = some ds[i] := List.getElem?_eq_getElem hlt
    rw [e0] at hf
    obtain ⟨g1, g2⟩ := hgo i _ e1
    refine ⟨g1, fun H2 => ∃ w2 acc2 xs2, w2.H = H2 ∧ w2.hd = upd w1.hd L (.lst xs2) ∧ Kp w1 w2 ∧ Ok K w2 ∧ RpL K w2 acc2 xs2 ∧ compi g tt te (wipeD ρ vs) (ds.drop (i + 1)) acc2 w2.M Q', fun H2 ⟨w2, acc2, xs2, h1, h2, h3, h4, h5, h6⟩ => ⟨ds.length - (i + 1), by omega, rfl, hlt, w2, acc2, xs2, h1, h2, h3, h4, h5, h6⟩, fun x H'' y => ?_⟩
    obtain ⟨b2, r2⟩ := g2 x H'' y
    have at2 : At K c (w'.at H'') (wipeD ρ vs) (wipe σ vs) := ⟨(a1.kp.trans kp').trans b2.kp, ((a1.re.wipe vs).mono kp').mono b2.kp, b2.ok⟩
    refine ⟨ds[i], wipeD ρ vs, w'.at H'', _, rfl, at2, r2, hf, fun ρ3 w3 σ3 q3 b3 a3 g3 => ?_⟩
    have hag : Ag vs (wipe σ vs) σ3 := ⟨g3.1, fun j hj => g3.2 j (fun z => hj (hsub j z))⟩
    refine ⟨by rw [wipe_ag hag, wipe_ag wipe_wipe], ρ3, w3, _, rfl, a3, q3, fun b w4 q4 b4 => ?_⟩
    have b24 : Bh K w' w4 := (b2.trans b3).trans b4
    cases b with
    | false =>
      refine iteF ⟨w4, acc, xs, rfl, b24.hd.trans hhd, kp'.trans b24.kp, b24.ok, racc.mono b24.kp, ?_⟩
      exact q4
    | true =>
      refine iteT ⟨ρ3, w4, _, rfl, a3.next b4, q4, fun d w5 v q5 b5 r5 => ?_⟩
      have b25 : Bh K w' w5 := b24.trans b5
      have hd5 : w5.hd L = some (.lst xs) := by rw [b25.hd]; exact hdL
      have r5' := racc.mono b25.kp
      refine ⟨xs, b25.ok.hid L _ hd5, szlt (by rw [racc.length]; exact q5.1), mk w5 L (xs ++ [v]), acc ++ [d], xs ++ [v], rfl, ?_, (kp'.trans b25.kp).trans (kp_mk (.inr ⟨_, hd5⟩)), ok_mk b25.ok (.inr ⟨_, hd5⟩), (r5'.append (RpL.one r5)).mono (kp_mk (.inr ⟨_, hd5⟩)), q5.2⟩
      show upd w5.hd L _ = _
      rw [b25.hd, hhd, upd_upd]
  · left
    have e : i = ds.length := by omega
    subst e
    rw [List.drop_length] at hf
    refine ⟨hst, ?_⟩
    have hM : w'.M L = none := by
      cases e : w'.M L with
      | none => rfl
      | some m => have := ok'.ap L m e; rw [hdL] at this; cases this
    have kp6 : Kp w' { hd := w1.hd, M := w'.M, H := w'.H } := Kp.of fun x u hf e => ⟨⟨hf.1, by
      have z := hf.2
      rw [hhd] at z
      have hne : x ≠ L := fun q => by subst q; rw [upd_same] at z; cases z
      rw [upd_ne hne] at z; exact z⟩, e⟩
    have ok6 : Ok K { hd := w1.hd, M := w'.M, H := w'.H } := ⟨fun x m e => (ok'.mo x m e).mono kp6 rfl, fun x u e => ok'.hid x u (by
        have hne : x ≠ L := fun q => by subst q; have e' : w1.hd x = some u := e; rw [fL.2] at e'; cases e'
        rw [hhd, upd_ne hne]; exact e), fun x m e => by
        have z := ok'.ap x m e
        rw [hhd] at z
        have hne : x ≠ L := fun q => by subst q; rw [upd_same] at z; cases z
        rw [upd_ne hne] at z; exact z⟩
    exact k (.lst acc) { hd := w1.hd, M := w'.M, H := w'.H } (.ref L) hf ⟨(b1.kp.trans kp').trans kp6, ok6, b1.hd⟩ ⟨L, xs, rfl, ⟨⟨hM, fL.2⟩, ok'.hid L _ hdL⟩, racc.mono kp6⟩
abbrev PDTs (c : Wd) (X : Cx) (ifs : List Expr) (t : DT) : Prop := PTs X ifs (liftT X.K c t)
@[simp] def dYes : DT := fun _ M Q => Q true M
theorem pdts_nil : PDTs c X [] dYes := ⟨fun pins s σ H Q I ⟨ρ, w, Q', hH, a, h, k⟩ => pts_nil.run pins s σ H Q I (hH ▸ k true w h (Bh.refl a.ok))⟩
theorem pdts_one {ce : Expr} {tt : DT} (h : PDT c X ce tt) : PDTs c X [ce] tt := pts_one h
theorem pd_lc {elt tg iter : Expr} {ifs : List Expr} {scope : Scope} {own : List (Str × Nat)} {us : List Nat} {tt : DT} (hc : X.calm = true) (hN : X.N.Nodup) (hi : PDI c X tg iter ti) (ok : BlkOk X.N X.env.scope scope own)
    (hg : ∀ (s : Shared) (H : Hp) (C : Addr) (cl : List (Str × Addr)) (fp : List Addr), PDG c (X.blk s H scope (compEnvC scope cl C X.env) fp) us tg g) (ht : ∀ (s : Shared) (H : Hp) (C : Addr) (cl : List (Str × Addr)) (fp : List Addr), PDTs c (X.blk s H scope (compEnvC scope cl C X.env) fp) ifs tt)
    (he : ∀ (s : Shared) (H : Hp) (C : Addr) (cl : List (Str × Addr)) (fp : List Addr), PD c (X.blk s H scope (compEnvC scope cl C X.env) fp) elt te) (hsub : ∀ i ∈ us, i ∈ own.map (·.2) := by decide) (hs : ∀ x, foldedSetIterable iter X.env x = pure x := by intro _; rfl) :
    PD c X (.ListComp elt [⟨tg, iter, ifs, 0⟩] scope pos) (dLc ti g tt te (own.map (·.2))) := PE_imp (pe_lc hc hN hi ok hg ht he hs) fun σ H Q h => comp_imp hsub h
theorem pds_setLc {i : Nat} {y : Str} {py spos : Pos} {elt tg iter : Expr} {ifs : List Expr} {scope : Scope} {own : List (Str × Nat)} {us : List Nat} {tt : DT} (hc : X.calm = true) (hN : X.N.Nodup)
    (hi : PDI c X tg iter ti) (ok : BlkOk X.N X.env.scope scope own)
    (hg : ∀ (s : Shared) (H : Hp) (C : Addr) (cl : List (Str × Addr)) (fp : List Addr), PDG c (X.blk s H scope (compEnvC scope cl C X.env) fp) us tg g) (ht : ∀ (s : Shared) (H : Hp) (C : Addr) (cl : List (Str × Addr)) (fp : List Addr), PDTs c (X.blk s H scope (compEnvC scope cl C X.env) fp) ifs tt)
    (he : ∀ (s : Shared) (H : Hp) (C : Addr) (cl : List (Str × Addr)) (fp : List Addr), PD c (X.blk s H scope (compEnvC scope cl C X.env) fp) elt te)
    (hsw : swapsWith (.ListComp elt [⟨tg, iter, ifs, 0⟩] scope pos) (some (.Name y py)) spos.line X.env = pure true) (hy : X.N[i]? = some y := by rfl) (hyl : X.env.scope.names.lookup y = some .local := by rfl) (hsub : ∀ i ∈ us, i ∈ own.map (·.2) := by decide) (hs : ∀ x, foldedSetIterable iter X.env x = pure x := by intro _; rfl) :
    PDS c X (.Assign [.Name y py] (.ListComp elt [⟨tg, iter, ifs, 0⟩] scope pos) spos) (dAsg (dLc ti g tt te (own.map (·.2))) (gNm i)) := PS_imp (ps_setLc hc hN hy hyl hsw hi ok hg ht he hs) fun D σ H ⟨ρ, w, D', hH, a, h, k⟩ =>
  comp_imp hsub ⟨ρ, w, _, hH, a, h, fun d w1 v q b r => k.nx _ w1 _ q b ((a.next b).set r)⟩
/-- a comprehension whose element is a function of the item -/
theorem compi_map {g : DG} {te : DE} {ρ : DEnv} {f : D → D} {M : Mu} : ∀ (xs acc : List D) (Q : DK), (∀ x ∈ xs, ∀ Q : DK, Q (f x) M → g x ρ M fun ρ1 M1 => te ρ1 M1 Q) → acc.length + xs.length ≤ 100000 → Q (.lst (acc ++ xs.map f)) M → compi g dYes te ρ xs acc M Q
  | [], acc, Q, h, hl, q => by simpa [compi] using q
  | x :: xs, acc, Q, h, hl, q => by
    rw [compi]
    show g x ρ M fun ρ1 M1 => te ρ1 M1 fun d M3 => acc.length < 100000 ∧ compi g dYes te ρ xs (acc ++ [d]) M3 Q
    refine h x List.mem_cons_self _ ⟨by simp at hl; omega, compi_map xs (acc ++ [f x]) Q (fun y hy => h y (List.mem_cons_of_mem _ hy)) (by simp at hl ⊢; omega) ?_⟩
    simpa using q
end
end DL
/-! The data layer, part f: defs, calls, built-ins. -/
namespace DL
open PySem L2

/-! ### what a def promises, over data -/
abbrev DSp := List D → Mu → DK → Prop
def up0 (K : PySem.W.Frag) (s : DSp) : Sp := fun vs H Q _ => ∃ w ds Q', w.H = H ∧ Ok K w ∧ RpL K w ds vs ∧ s ds w.M Q' ∧ Wv K w Q' Q
@[simp] def startD (N : List Str) (ds : List D) : DEnv := ds.map some ++ List.replicate (N.length - ds.length) none
theorem RE.start {K : PySem.W.Frag} {w : Wd} {N : List Str} : ∀ {ds : List D} {vs : List V}, RpL K w ds vs → RE K w (startD N ds) (start N vs) := fun {ds vs} r => by
  have hl := r.length
  refine ⟨by simp [startD, L2.start, hl], fun i d e => ?_⟩
  unfold startD at e
  by_cases hi : i < ds.length
  · rw [List.getElem?_append_left (by simpa using hi), List.getElem?_map] at e
    cases ed : ds[i]? with
    | none => rw [ed] at e; cases e
    | some d' =>
      rw [ed] at e
      obtain rfl : d' = d := by simpa using e
      obtain ⟨v, h1, h2⟩ := r.at ed
      refine ⟨v, ?_, h2⟩
      unfold L2.start
      rw [List.getElem?_append_left (by simp; omega), List.getElem?_map, h1]; rfl
  · rw [List.getElem?_append_right (by simpa using hi), List.getElem?_replicate] at e
    split at e <;> cases e
section
variable {P : Program} {w : World} {K : PySem.W.Frag} {mg : Str → Option Value} {base : Heap} {x qual : Str} {st : Stmt} {dvs : List V} {kws : List (Str × V)} {f : Addr} {fd : FuncData}
/-- a def keeps its promise -/
theorem fn0 {N ps : List Str} {k : Nat} {s : DSp} {t : DS} (F : FunD K x qual (defArgs st) (defBody st) (defScope st) dvs kws f fd) (S : FnScope N ps (defScope st))
    (hb : ∀ (cdv : Value) (A : Around) (outer : List Env) (sh : Shared) (H : Hp) (E : XK) (c : Wd), Room k (A.deeper (PyProof.Rows.envOfC qual (defScope st) sh.heap.objs.size f cdv)) → PDSs c (cxOf CX0 P w K mg base N qual (defScope st) f cdv A outer sh H E).nox (defBody st) t)
    (hs : ∀ ds M Q, s ds M Q → ds.length = ps.length ∧ t { nx := fun _ M' => Q .non M', rt := Q } (startD N ds) M) : FnOk P w K mg base CX0 (k + 1) f fd ps (up0 K s) := by
  refine F.ok S (fun vs H Q E h => ?_) (fun cdv A outer sh H vs Q E hr h => ?_)
  · obtain ⟨w, ds, Q', hH, ok, r, h, k⟩ := h
    rw [r.length]; exact (hs ds _ Q' h).1
  · obtain ⟨w, ds, Q', hH, ok, r, h, k⟩ := h
    refine ⟨liftS K w t, (hb cdv A outer sh H E w hr).nox, startD N ds, w, _, hH, ⟨Kp.refl w, RE.start r, ok⟩, (hs ds _ Q' h).2, ?_⟩
    exact { nx := fun ρ' w' σ' q b a => k .non w' .non q b rfl, rt := k, bk := fun _ _ _ q => q.elim, ct := fun _ _ _ q => q.elim }
/-- a def of the text that keeps its promise, by its name -/
structure Fnd (P : Program) (w : World) (K : PySem.W.Frag) (mg : Str → Option Value) (base : Heap) (k : Nat) (x : Str) (st : Stmt) (ps : List Str) (s : DSp) : Prop where
  ex : ∃ f fd, FunD K x x (defArgs st) (defBody st) (defScope st) [] [] f fd ∧ FnOk P w K mg base CX0 k f fd ps (up0 K s) ∧ mg x = some (.ref f) ∧ Binds K fd ps []
theorem Fnd.mono {j k : Nat} {ps : List Str} {s : DSp} (F : Fnd P w K mg base j x st ps s) (h : j ≤ k) : Fnd P w K mg base k x st ps s := by
  obtain ⟨f, fd, a, b, c⟩ := F.ex
  exact ⟨f, fd, a, b.mono h, c⟩
end
section
variable {X : Cx} {c : Wd} {e o : Expr} {es : List Expr} {te ta tb : DE} {tl tk : DA} {pos p apos : Pos} {x : Str} {st : Stmt} {ps : List Str} {s : DSp} {k : Nat}
@[simp] def dCall (s : DSp) (t : DA) : DE := fun ρ M Q => t ρ M fun ds M1 => s ds M1 Q
theorem call_imp {K : PySem.W.Frag} {σ : St} {H : Hp} {Q : VK} {E : XK} (h : lift K c (dCall s tl) σ H Q) : tCall (up0 K s) [] E (liftA K c tl) σ H Q := by
  obtain ⟨ρ, w, Q', hH, a, h, k⟩ := h
  refine ⟨ρ, w, _, hH, a, h, fun ds w1 vs q b r => ?_⟩
  show up0 K s (vs ++ []) w1.H Q E
  rw [List.append_nil]
  exact ⟨w1, ds, Q', rfl, b.ok, r, q, k.back b⟩
theorem pd_call (G : Fnd X.prog X.w X.K X.mg X.base k x st ps s) (hr : Room k X.A) (ha : PDA c X (e :: es) tl) (hg : Gl X x := by rfl) (hdb : (x == ("__debug__" : Str)) = false := by decide)
    (he : starEach (e :: es) X.env = (false, eval e X.env) :: starEach es X.env := by rfl) (hpl : (backTo pos (starEach es X.env)).any (·.1) = false := by rfl) : PD c X (.Call (.Name x p) (e :: es) [] pos) (dCall s tl) := by
  obtain ⟨f, fd, F, G, hm, hb⟩ := G.ex
  exact PE_imp (pe_call (E := E0) G hr hg hm F.kp hb .nil pass0 ha (hdb := hdb) (he := he) (hpl := hpl)) fun σ H Q h => call_imp h
theorem pd_call0 (G : Fnd X.prog X.w X.K X.mg X.base k x st ps s) (hr : Room k X.A) (hg : Gl X x := by rfl) (hdb : (x == ("__debug__" : Str)) = false := by decide) : PD c X (.Call (.Name x p) [] [] pos) (dCall s dNil) := by
  obtain ⟨f, fd, F, G, hm, hb⟩ := G.ex
  refine PE_imp (pe_call0 (E := E0) G hr hg hm F.kp hb .nil pass0 (hdb := hdb)) fun σ H Q ⟨ρ, w, Q', hH, a, h, k⟩ => ?_
  exact ⟨w, [], Q', hH, a.ok, rfl, h, k⟩
/-! ### keywords -/
abbrev PDK (c : Wd) (X : Cx) (kws : List Keyword) (t : DA) : Prop := PK X kws (liftA X.K c t)
theorem PK_imp {kws : List Keyword} {t t' : TA} (h : PK X kws t) (i : ∀ σ H Q, t' σ H Q → t σ H Q) : PK X kws t' := ⟨fun pos pins s σ H Q I q => h.run pos pins s σ H Q I (i σ H Q q)⟩
theorem pdk_nil : PDK c X [] dNil := PK_imp pk_nil fun σ H Q ⟨ρ, w, Q', hH, a, h, k⟩ => hH ▸ k [] w [] h (Bh.refl a.ok) rfl
theorem pdk_cons {kws : List Keyword} {nm : Option Str} {kpos : Pos} (ha : PD c X e te) (hr : PDK c X kws tl) : PDK c X (⟨nm, e, kpos⟩ :: kws) (dCons te tl) := PK_imp (pk_cons ha hr) fun σ H Q ⟨ρ, w, Q', hH, a, h, k⟩ =>
  ⟨ρ, w, _, hH, a, h, fun d w1 v q b1 r => ⟨ρ, w1, _, rfl, a.next b1, q, fun ds w2 vs q2 b2 r2 => k (d :: ds) w2 (v :: vs) q2 (b1.trans b2) ⟨v, vs, rfl, r.mono b2.kp, r2⟩⟩⟩
/-- all arguments by keywords; g puts them in the parameters' order -/
@[simp] def dCallK0 (s : DSp) (m : Nat) (g : List D → List D) (tk : DA) : DE := fun ρ M Q => tk ρ M fun ds M1 => ds.length = m ∧ s (g ds) M1 Q
theorem pd_callK0 {kws : List Keyword} {ks : List Str} {m : Nat} (g : {α : Type} → List α → List α) (hrel : ∀ {α β : Type} (R : α → β → Prop) (a : List α) (b : List β), a.length = m → Paired R a b → Paired R (g a) (g b))
    (hgL : ∀ (K : PySem.W.Frag) (w : Wd) (ds : List D) (vs : List V), ds.length = m → RpL K w ds vs → RpL K w (g ds) (g vs))
    (hbind : ∀ (kV doc pm : Value) (an : Option Addr) (cdv ct : Value) (ws : List Value), ws.length = m → bindArgs (PySem.W.fnOf x x (defArgs st) (defBody st) (defScope st) .none kV doc pm an cdv ct) ⟨[], ks.zip ws⟩ = pure (ps.zip (g ws)))
    (G : Fnd X.prog X.w X.K X.mg X.base k x st ps s) (hr : Room k X.A) (hkw : PDK c X kws tk) (hg : Gl X x := by rfl) (hall : (backToKw pos (keywordEach kws X.env)).all (·.1.isSome) = true := by rfl) (hks : (backToKw pos (keywordEach kws X.env)).filterMap (·.1) = ks := by rfl)
    (hdb : (x == ("__debug__" : Str)) = false := by decide) (hpl : ((backTo pos (starEach [] X.env)).any (·.1) || (backToKw pos (keywordEach kws X.env)).any (·.1.isNone)) = false := by rfl) :
    PD c X (.Call (.Name x p) [] kws pos) (dCallK0 s m g tk) := by
  obtain ⟨f, fd, F, G, hm, hb⟩ := G.ex
  refine ⟨fun pins sh σ H Q I ⟨ρ, w, Q', hH, a, h, k⟩ => ?_⟩
  refine wpAny_Call_Name_kw (ld_glob I hg hm ?_ hdb)
  have h1 : liftA X.K c tk σ H (fun vs H1 => ∃ (w1 : Wd) (ds : List D), w1.H = H1 ∧ Bh X.K w w1 ∧ (ds.length = m ∧ s (g ds) w1.M Q') ∧ RpL X.K w1 ds vs) := ⟨ρ, w, _, hH, a, h, fun ds w1 vs q b r => ⟨w1, ds, rfl, b, q, r⟩⟩
  refine PySem.W.callWith_KW0 (h₀ := X.base) I.ok.mod.kin F.kp hall (thn (hkw.run pos pins sh σ H _ I h1) fun ws s2 ⟨zs, H2, I2, rz, w1, ds, hw, b, q, r⟩ => ⟨I2.kIn, ?_⟩) hpl
  rw [hks]
  subst hw
  have hl : zs.length = m := by rw [r.length]; exact q.1
  have r2 : Vals (g zs) (g ws) := hrel RelV zs ws hl rz
  have hsp : up0 X.K s (g zs) w1.H Q E0 := ⟨w1, g ds, Q', rfl, b.ok, hgL X.K w1 ds zs q.1 r, q.2, k.back b⟩
  obtain ⟨oc, od, dV, kV, doc, pm, an, cdv, ct, osl, rfl, lk, hcd, hD, hK⟩ := F.ex
  obtain rfl : dV = .none := by
    rcases hD with ⟨_, z⟩ | ⟨z, _⟩
    · exact z
    · exact absurd rfl z
  refine wpAny_call (codeAny_mono (G.run X.A X.stack s2 _ ⟨[], ks.zip ws⟩ (g ws) (g zs) Q E0 hr I2.env0 (.of_eq (hbind kV doc pm an cdv ct ws (by rw [← rz.length]; exact hl))) r2 hsp) fun r s' hq => ?_)
  cases r with
  | error e => exact hq.elim
  | ok fl =>
    cases fl with
    | ret u => exact I2.after hq
    | next => exact False.elim hq
    | brk => exact False.elim hq
    | cont => exact False.elim hq
end
end DL
/-! The data layer, part g: built-in functions, methods of texts, ranges, enumerate, zip. -/
namespace DL
open PySem L2
section
variable {X : Cx} {c : Wd} {e o : Expr} {es : List Expr} {te ta tb to' : DE} {tl : DA} {pos p apos : Pos}
@[simp] def lenD : DC := fun ds M Q => match ds with
  | [.lst xs] => Q (.int xs.length) M
  | [.tup xs] => Q (.int xs.length) M
  | [.str z] => z.length ≤ 100000 ∧ Q (.int z.length) M
  | [.ref a] => (match M a with | some (.lst xs) => Q (.int xs.length) M | _ => False)
  | _ => False
theorem one_of {K : PySem.W.Frag} {w : Wd} {d : D} {vs : List V} (r : RpL K w [d] vs) : ∃ v, vs = [v] ∧ Rp K w d v := by
  obtain ⟨x, q, rfl, r1, r2⟩ := r
  obtain rfl : q = [] := r2
  exact ⟨x, rfl, r1⟩
theorem two_of {K : PySem.W.Frag} {w : Wd} {d e : D} {vs : List V} (r : RpL K w [d, e] vs) : ∃ v u, vs = [v, u] ∧ Rp K w d v ∧ Rp K w e u := by
  obtain ⟨x, q, rfl, r1, r2⟩ := r
  obtain ⟨u, rfl, r3⟩ := one_of r2
  exact ⟨x, u, rfl, r1, r3⟩
theorem len_D : CallD X (.builtin "len") lenD := by
  intro pins s σ H vs us Q I rs ⟨w, ds, Q', hH, ok, r, h, k⟩
  subst hH
  match ds, r, h with
  | [d], r, h =>
    obtain ⟨v, rfl, r1⟩ := one_of r
    cases d with
    | lst xs => obtain ⟨a, ys, rfl, l, s1⟩ := r1; exact call_len pins s σ _ _ us Q I rs ⟨_, ys.length, rfl, .inl ⟨ys, l.sq, rfl⟩, by rw [s1.length]; exact k.here ok h rfl⟩
    | tup xs => obtain ⟨a, ys, rfl, l, s1⟩ := r1; exact call_len pins s σ _ _ us Q I rs ⟨_, ys.length, rfl, .inr ⟨ys, l.sq, rfl⟩, by rw [s1.length]; exact k.here ok h rfl⟩
    | str z => obtain rfl : v = .str z := r1; exact call_len pins s σ _ _ us Q I rs ⟨_, z.length, rfl, ⟨sz h.1, rfl⟩, k.here ok h.2 rfl⟩
    | ref a =>
      obtain rfl : v = .ref a := r1
      cases em : w.M a with
      | none => simp only [lenD, em] at h
      | some m =>
        cases m with
        | lst xs =>
          simp only [lenD, em] at h
          obtain ⟨ys, hx, s1⟩ := (show ∃ ys, w.H a = some (.lst ys) ∧ RpL X.K w xs ys from ok.mo a _ em)
          exact call_len pins s σ _ _ us Q I rs ⟨_, ys.length, rfl, .inl ⟨ys, SqL.of hx, rfl⟩, by rw [s1.length]; exact k.here ok h rfl⟩
        | _ => simp only [lenD, em] at h
    | _ => exact False.elim h
  | [], r, h => exact False.elim h
  | d :: _ :: _, r, h => cases d <;> exact False.elim h
@[simp] def intD : DC := fun ds M Q => match ds with
  | [.int i] => Q (.int i) M
  | [.bl b] => Q (.int (if b then 1 else 0)) M
  | [.str a] => a.length ≤ 640 ∧ ∃ n, PySem.intText? a = some n ∧ Q (.int n) M
  | _ => False
theorem int_D : CallD X (.type "int") intD := by
  intro pins s σ H vs us Q I rs ⟨w, ds, Q', hH, ok, r, h, k⟩
  subst hH
  match ds, r, h with
  | [d], r, h =>
    obtain ⟨v, rfl, r1⟩ := one_of r
    cases d with
    | int i => obtain rfl : v = .int i := r1; exact call_int1 pins s σ _ _ us Q I rs (.inl ⟨i, rfl, k.here ok h rfl⟩)
    | bl b => obtain rfl : v = .bl b := r1; exact call_int1 pins s σ _ _ us Q I rs (.inr ⟨b, rfl, k.here ok h rfl⟩)
    | str a => obtain rfl : v = .str a := r1; obtain ⟨hl, n, hn, h⟩ := h; exact call_int_str pins s σ _ _ us Q I rs ⟨a, n, rfl, hn, hl, k.here ok h rfl⟩
    | _ => exact False.elim h
  | [], r, h => exact False.elim h
  | d :: _ :: _, r, h => cases d <;> exact False.elim h
@[simp] def strD : DC := fun ds M Q => match ds with
  | [.int i] => i.natAbs.log2 < 1920 ∧ Q (.str (toString i)) M
  | _ => False
theorem str_D : CallD X (.type "str") strD := by
  intro pins s σ H vs us Q I rs ⟨w, ds, Q', hH, ok, r, h, k⟩
  subst hH
  match ds, r, h with
  | [d], r, h =>
    obtain ⟨v, rfl, r1⟩ := one_of r
    cases d with
    | int i => obtain rfl : v = .int i := r1; exact call_str_int pins s σ _ _ us Q I rs ⟨i, rfl, h.1, k.here ok h.2 rfl⟩
    | _ => exact False.elim h
  | [], r, h => exact False.elim h
  | d :: _ :: _, r, h => cases d <;> exact False.elim h
@[simp] def tupD : DC := fun ds M Q => match ds with
  | [.lst xs] => Q (.tup xs) M
  | [.tup xs] => Q (.tup xs) M
  | _ => False
theorem tup_D : CallD X (.type "tuple") tupD := by
  intro pins s σ H vs us Q I rs ⟨w, ds, Q', hH, ok, r, h, k⟩
  subst hH
  match ds, r, h with
  | [d], r, h =>
    obtain ⟨v, rfl, r1⟩ := one_of r
    cases d with
    | lst xs => obtain ⟨a, ys, rfl, l, s1⟩ := r1; exact call_tuple_of pins s σ _ _ us Q I rs ⟨a, ys, rfl, .inl ⟨l.sq, fun q hq => k.new ok hq h (rp_tup ok hq s1)⟩⟩
    | tup xs => obtain ⟨a, ys, rfl, l, s1⟩ := r1; exact call_tuple_of pins s σ _ _ us Q I rs ⟨a, ys, rfl, .inr ⟨l.sq, k.here ok h ⟨a, ys, rfl, l, s1⟩⟩⟩
    | _ => exact False.elim h
  | [], r, h => exact False.elim h
  | d :: _ :: _, r, h => cases d <;> exact False.elim h
@[simp] def lstD : DC := fun ds M Q => match ds with
  | [.lst xs] => Q (.lst xs) M
  | [.tup xs] => Q (.lst xs) M
  | [.ref a] => (match M a with | some (.lst xs) => Q (.lst xs) M | _ => False)
  | _ => False
theorem lst_D : CallD X (.type "list") lstD := by
  intro pins s σ H vs us Q I rs ⟨w, ds, Q', hH, ok, r, h, k⟩
  subst hH
  match ds, r, h with
  | [d], r, h =>
    obtain ⟨v, rfl, r1⟩ := one_of r
    cases d with
    | lst xs => obtain ⟨a, ys, rfl, l, s1⟩ := r1; exact call_list_of pins s σ _ _ us Q I rs ⟨a, ys, rfl, .inl l.sq, fun q hq => k.new ok hq h (rp_lst ok hq s1)⟩
    | tup xs => obtain ⟨a, ys, rfl, l, s1⟩ := r1; exact call_list_of pins s σ _ _ us Q I rs ⟨a, ys, rfl, .inr l.sq, fun q hq => k.new ok hq h (rp_lst ok hq s1)⟩
    | ref a =>
      obtain rfl : v = .ref a := r1
      cases em : w.M a with
      | none => simp only [lstD, em] at h
      | some m =>
        cases m with
        | lst xs =>
          simp only [lstD, em] at h
          obtain ⟨ys, hx, s1⟩ := (show ∃ ys, w.H a = some (.lst ys) ∧ RpL X.K w xs ys from ok.mo a _ em)
          exact call_list_of pins s σ _ _ us Q I rs ⟨a, ys, rfl, .inl (SqL.of hx), fun q hq => k.new ok hq h (rp_lst ok hq s1)⟩
        | _ => simp only [lstD, em] at h
    | _ => exact False.elim h
  | [], r, h => exact False.elim h
  | d :: _ :: _, r, h => cases d <;> exact False.elim h
theorem bls_of {K : PySem.W.Frag} {w : Wd} : ∀ {bs : List Bool} {vs : List V}, RpL K w (bs.map D.bl) vs → vs = bs.map V.bl
  | [], vs, r => r
  | b :: bs, vs, r => by
    obtain ⟨x, q, rfl, r1, r2⟩ := r
    rw [bls_of r2, show x = V.bl b from r1]; rfl
@[simp] def allD : DC := fun ds M Q => match ds with
  | [.lst xs] => ∃ bs : List Bool, xs = bs.map D.bl ∧ Q (.bl (bs.all id)) M
  | _ => False
@[simp] def anyD : DC := fun ds M Q => match ds with
  | [.lst xs] => ∃ bs : List Bool, xs = bs.map D.bl ∧ Q (.bl (bs.any id)) M
  | _ => False
theorem all_D (hc : X.calm = true) : CallD X (.builtin "all") allD := by
  intro pins s σ H vs us Q I rs ⟨w, ds, Q', hH, ok, r, h, k⟩
  subst hH
  match ds, r, h with
  | [d], r, h =>
    obtain ⟨v, rfl, r1⟩ := one_of r
    cases d with
    | lst xs => obtain ⟨a, ys, rfl, l, s1⟩ := r1; obtain ⟨bs, rfl, h⟩ := h; exact cr_all hc pins s σ _ _ us Q I rs ⟨a, bs, rfl, by rw [← bls_of s1]; exact l.sq, k.here ok h rfl⟩
    | _ => exact False.elim h
  | [], r, h => exact False.elim h
  | d :: _ :: _, r, h => cases d <;> exact False.elim h
theorem any_D (hc : X.calm = true) : CallD X (.builtin "any") anyD := by
  intro pins s σ H vs us Q I rs ⟨w, ds, Q', hH, ok, r, h, k⟩
  subst hH
  match ds, r, h with
  | [d], r, h =>
    obtain ⟨v, rfl, r1⟩ := one_of r
    cases d with
    | lst xs => obtain ⟨a, ys, rfl, l, s1⟩ := r1; obtain ⟨bs, rfl, h⟩ := h; exact cr_any hc pins s σ _ _ us Q I rs ⟨a, bs, rfl, by rw [← bls_of s1]; exact l.sq, k.here ok h rfl⟩
    | _ => exact False.elim h
  | [], r, h => exact False.elim h
  | d :: _ :: _, r, h => cases d <;> exact False.elim h

/-! ### isinstance, built-in classes -/
def tyN : D → Option String
  | .non => some "NoneType"
  | .bl _ => some "bool"
  | .int _ => some "int"
  | .str _ => some "str"
  | .lst _ => some "list"
  | .tup _ => some "tuple"
  | .dct _ => some "dict"
  | _ => none
def tyNames : List String := ["NoneType", "bool", "int", "str", "list", "tuple", "dict"]
def isA (a b : String) : Bool := a == b || (a == "bool" && b == "int")
theorem kit_all : ∀ a ∈ tyNames, ∀ b ∈ tyNames, kitB a b = some (isA a b) := by decide +kernel
def inst (d : D) (n : String) : Bool := match tyN d with | some a => isA a n | none => false
theorem tyN_mem {d : D} {a : String} (h : tyN d = some a) : a ∈ tyNames := by
  cases d <;> simp only [tyN] at h <;> first | (cases h; done) | (obtain rfl := Option.some.inj h; decide)
theorem kit_D {pins : List (Addr × Obj)} {s : Shared} {σ : St} {w : Wd} {d : D} {v : V} {u : Value} {a : String} (I : Inv X pins σ w.H s) (h : tyN d = some a) (r : Rp X.K w d v) (rx : RelV v u) :
    ∃ P : Heap → Prop, PySem.W.KitX X.K u (.type a) P ∧ P s.heap ∧ u ≠ .builtin "__main__.__loader__#opaque" := by
  cases d with
  | non => obtain rfl : v = .non := r; cases h; exact kit_of I rx (.base .non)
  | bl b => obtain rfl : v = .bl b := r; cases h; exact kit_of I rx (.base (.bl b))
  | int b => obtain rfl : v = .int b := r; cases h; exact kit_of I rx (.base (.int b))
  | str b => obtain rfl : v = .str b := r; cases h; exact kit_of I rx (.base (.str b))
  | lst xs => obtain ⟨p, ys, rfl, l, _⟩ := r; cases h; exact kit_of I rx (.base (.lst l.2))
  | tup xs =>
    obtain ⟨p, ys, rfl, l, _⟩ := r
    cases h
    rcases l with l | l
    · exact kit_of I rx (.base (.tup l.2))
    · rcases l (fun _ => none) with z | ⟨o, its, n, hk, hc, _⟩
      · rcases z with z | ⟨_, z⟩ <;> cases z
      · exact kit_of I rx (.kTuple hk hc)
  | dct kvs =>
    obtain ⟨p, rfl, hm, hl⟩ := r
    cases h
    rcases hl with ⟨ks, ⟨u', e, q⟩, _⟩ | ⟨ks, ⟨u', e, q⟩, _⟩
    · unfold unl at q
      split at q
      · cases q; exact kit_of I rx (.fDict e)
      · cases q
      · subst q; exact kit_of I rx (.base (.dK e))
    · unfold unl at q
      split at q
      · cases q
      · cases q
        rename_i ob
        cases (show u = Value.ref p from rx)
        obtain ⟨_, _, _, xs, _, o, es, ep, h1, h2, _⟩ := (show ObjOk X.prog X.w w.H s.heap p (.frz ob (.dT ks)) from I.hok p _ e)
        exact ⟨_, PySem.W.kitx_dict, ⟨o, h1, h2.1⟩, fun z => nomatch z⟩
      · subst q; exact kit_of I rx (.base (.dT e))
  | _ => cases h
def tyV1 : D → Option String
  | .ty n => some n
  | _ => none
def tysOf : List D → Option (List String)
  | [] => some []
  | .ty n :: r => (tysOf r).map (n :: ·)
  | _ => none
@[simp] def isiD : DC := fun ds M Q => match ds with
  | [x, .ty n] => ((tyN x).isSome = true ∧ n ∈ tyNames) ∧ Q (.bl (inst x n)) M
  | [x, .tup cs] => (match tysOf cs with | some ns => ((tyN x).isSome = true ∧ (∀ n ∈ ns, n ∈ tyNames)) ∧ Q (.bl (ns.any (inst x))) M | none => False)
  | _ => False
theorem tys_vals {K : PySem.W.Frag} {w : Wd} : ∀ {cs : List D} {ns : List String} {vs : List V} {us : List Value}, tysOf cs = some ns → RpL K w cs vs → Vals vs us → us = ns.map Value.type
  | [], ns, vs, us, h, r, q => by
    obtain rfl : vs = [] := r
    cases h; cases q; rfl
  | .ty n :: cs, ns, vs, us, h, r, q => by
    obtain ⟨x, r', rfl, r1, r2⟩ := r
    obtain rfl : x = .ty n := r1
    cases e : tysOf cs with
    | none => simp only [tysOf, e] at h; cases h
    | some ms =>
      simp only [tysOf, e, Option.map_some] at h
      cases h
      cases q with
      | cons q1 q2 =>
        rw [tys_vals e r2 q2]
        cases (show _ = Value.type n from q1)
        rfl
  | .non :: _, _, _, _, h, _, _ => by cases h
  | .bl _ :: _, _, _, _, h, _, _ => by cases h
  | .int _ :: _, _, _, _, h, _, _ => by cases h
  | .str _ :: _, _, _, _, h, _, _ => by cases h
  | .lst _ :: _, _, _, _, h, _, _ => by cases h
  | .tup _ :: _, _, _, _, h, _, _ => by cases h
  | .dct _ :: _, _, _, _, h, _, _ => by cases h
  | .obj _ _ :: _, _, _, _, h, _, _ => by cases h
  | .ref _ :: _, _, _, _, h, _, _ => by cases h
  | .scr _ :: _, _, _, _, h, _, _ => by cases h
theorem kit_any {K : PySem.W.Frag} {a : String} (ha : a ∈ tyNames) : ∀ {ns : List String}, (∀ n ∈ ns, n ∈ tyNames) → PySem.W.kitAny K (.type a) (ns.map Value.type) = some (ns.any fun n => isA a n)
  | [], _ => rfl
  | n :: ns, h => by
    refine kitAny_cons (b := isA a n) (kit_ty (kit_all a ha n (h n List.mem_cons_self))) (fun e => ?_) (fun e => ?_)
    · rw [List.any_cons, e, Bool.false_or]; exact kit_any ha fun m hm => h m (List.mem_cons_of_mem _ hm)
    · rw [List.any_cons, e, Bool.true_or]
theorem isi_D : CallD X (.builtin "isinstance") isiD := by
  intro pins s σ H vs us Q I rs ⟨w, ds, Q', hH, ok, r, h, k⟩
  subst hH
  match ds, r, h with
  | [d, t], r, h =>
    obtain ⟨v, v2, rfl, r1, r2⟩ := two_of r
    obtain ⟨u1, u2, rfl, q1, q2⟩ := vals2 rs
    cases t with
    | ty n =>
      obtain rfl : v2 = .ty n := r2
      cases (show u2 = Value.type n from q2)
      obtain ⟨⟨h1, h2⟩, h⟩ := h
      obtain ⟨a, ha⟩ := Option.isSome_iff_exists.mp h1
      obtain ⟨P, Z, pz, hx⟩ := kit_D I ha r1 q1
      refine PySem.W.kia_one (b := isA a n) Z I.kIn pz (kit_ty (kit_all a (tyN_mem ha) n h2)) hx fun tk => ⟨.bl _, _, I.tok tk, rfl, ?_⟩
      have : inst d n = isA a n := by unfold inst; rw [ha]
      rw [← this]; exact k.here ok h rfl
    | tup cs =>
      obtain ⟨tp, xs, rfl, l, s1⟩ := r2
      cases (show u2 = Value.ref tp from q2)
      cases e : tysOf cs with
      | none => simp only [isiD, e] at h
      | some ns =>
        simp only [isiD, e] at h
        obtain ⟨⟨h1, h2⟩, h⟩ := h
        obtain ⟨a, ha⟩ := Option.isSome_iff_exists.mp h1
        obtain ⟨P, Z, pz, hx⟩ := kit_D I ha r1 q1
        obtain ⟨its, rv, ⟨oo, g1, g2, n, g3⟩, hz⟩ := I.tuple l.sq
        have e3 := tys_vals e s1 rv
        subst e3
        obtain ⟨oc, od, dt, sl⟩ := oo
        simp only at g2 g3
        subst g2 g3
        refine PySem.W.kia_tup (b := ns.any fun n => isA a n) Z I.kIn pz g1 (kit_any (tyN_mem ha) h2) hx fun tk => ⟨.bl _, _, I.tok tk, rfl, ?_⟩
        have : (fun n => isA a n) = inst d := by funext n; unfold inst; rw [ha]
        rw [this]; exact k.here ok h rfl
    | _ => exact False.elim h
  | [], r, h => exact False.elim h
  | [_], r, h => exact False.elim h
  | _ :: t :: _ :: _, r, h => cases t <;> exact False.elim h
theorem pd_ty {x : Str} {n : String} (hm : X.mg x = none) (hv : bootBuiltins x = some (.type n)) (hg : Gl X x := by rfl) (hn : x ≠ "__name__" := by decide) (hd : (x == ("__debug__" : Str)) = false := by decide) : PD c X (.Name x pos) (dC (.ty n)) :=
  pd_of (pe_bltn hg hm hv (v := .ty n) rfl hn hd) fun _ => rfl

/-! ### methods of texts with one argument -/
abbrev DM1 := Str → D → Mu → DK → Prop
@[simp] def dM1 (g : DM1) (ta tb : DE) : DE := fun ρ M Q => ta ρ M fun d M1 => match d with | .str a => tb ρ M1 fun y M2 => g a y M2 Q | _ => False
def liftM1 (K : PySem.W.Frag) (g : DM1) : V → List V → Hp → VK → Prop := fun x xs H Q => ∃ w a y v Q', w.H = H ∧ x = .str a ∧ xs = [v] ∧ Ok K w ∧ Rp K w y v ∧ g a y w.M Q' ∧ Wv K w Q' Q
theorem pd_m1 {id : String} {name : Str} {g : DM1} (slot : Slot "str" name id) (ty : typeOf (.builtin id) = pure (.type "method_descriptor")) (rule : MtR X id (liftM1 X.K g)) (ho : PD c X o ta) (he : PD c X e tb)
    (hs : starEach [e] X.env = [(false, eval e X.env)] := by rfl) (hbase : attributeBase o name X.env (eval o X.env) = eval o X.env := by rfl) (hline : (apos.endLine == pos.line) = true := by rfl) :
    PD c X (.Call (.Attribute o name apos) [e] [] pos) (dM1 g ta tb) := PE_imp (pe_m1 slot ty rule ho he hs hbase hline) fun σ H Q ⟨ρ, w, Q', hH, a, h, k⟩ =>
  ⟨ρ, w, _, hH, a, h, fun d w1 v q b1 r => by
    cases d with
    | str z => obtain rfl : v = .str z := r; exact ⟨⟨z, rfl⟩, ρ, w1, _, rfl, a.next b1, q, fun y w2 u q2 b2 r2 => ⟨w2, z, y, u, Q', rfl, rfl, rfl, b2.ok, r2, q2, k.back (b1.trans b2)⟩⟩
    | _ => exact q.elim⟩
@[simp] def joinD : DM1 := fun a y M Q => match y with
  | .lst xs => ∃ ys : List Str, xs = ys.map D.str ∧ (ys.map (·.length)).sum + ys.length * a.length ≤ 100000 ∧ Q (.str (Txt.join a ys)) M
  | .tup xs => ∃ ys : List Str, xs = ys.map D.str ∧ (ys.map (·.length)).sum + ys.length * a.length ≤ 100000 ∧ Q (.str (Txt.join a ys)) M
  | _ => False
theorem strs_of {K : PySem.W.Frag} {w : Wd} : ∀ {bs : List Str} {vs : List V}, RpL K w (bs.map D.str) vs → vs = bs.map V.str
  | [], vs, r => r
  | b :: bs, vs, r => by
    obtain ⟨x, q, rfl, r1, r2⟩ := r
    rw [strs_of r2, show x = V.str b from r1]; rfl
theorem join_D : MtR X "str.join" (liftM1 X.K joinD) := by
  intro pins s σ H x xs v us Q I rx rs ⟨w, a, y, vy, Q', hH, e1, e2, ok, r, h, k⟩
  subst hH e1 e2
  cases y with
  | lst ds => obtain ⟨p, ys, rfl, l, s1⟩ := r; obtain ⟨zs, rfl, hz, h⟩ := h; exact mt_join pins s σ _ _ _ v us Q I rx rs ⟨a, p, zs, rfl, rfl, .inl (by rw [← strs_of s1]; exact l.sq), by omega, k.here ok h rfl⟩
  | tup ds => obtain ⟨p, ys, rfl, l, s1⟩ := r; obtain ⟨zs, rfl, hz, h⟩ := h; exact mt_join pins s σ _ _ _ v us Q I rx rs ⟨a, p, zs, rfl, rfl, .inr (by rw [← strs_of s1]; exact l.sq), by omega, k.here ok h rfl⟩
  | _ => exact False.elim h
theorem pd_join (ho : PD c X o ta) (he : PD c X e tb) (hs : starEach [e] X.env = [(false, eval e X.env)] := by rfl) (hbase : attributeBase o "join" X.env (eval o X.env) = eval o X.env := by rfl) (hline : (apos.endLine == pos.line) = true := by rfl) :
    PD c X (.Call (.Attribute o "join" apos) [e] [] pos) (dM1 joinD ta tb) := pd_m1 F.slot_str_join F.type_str_join join_D ho he hs hbase hline
@[simp] def sindexD : DM1 := fun a y M Q => match y with
  | .str b => (match Builtin.Str.occurrences a b 0 a.length 1 with | i :: _ => Q (.int (i : Nat)) M | [] => False)
  | _ => False
theorem sindex_D : MtR X "str.index" (liftM1 X.K sindexD) := by
  intro pins s σ H x xs v us Q I rx rs ⟨w, a, y, vy, Q', hH, e1, e2, ok, r, h, k⟩
  subst hH e1 e2
  cases y with
  | str b =>
    obtain rfl : vy = .str b := r
    cases e : Builtin.Str.occurrences a b 0 a.length 1 with
    | nil => simp only [sindexD, e] at h
    | cons i rest => simp only [sindexD, e] at h; exact mt_sindex pins s σ _ _ _ v us Q I rx rs ⟨a, b, i, rest, rfl, rfl, e, k.here ok h rfl⟩
  | _ => exact False.elim h
theorem pd_sindex (ho : PD c X o ta) (he : PD c X e tb) (hs : starEach [e] X.env = [(false, eval e X.env)] := by rfl) (hbase : attributeBase o "index" X.env (eval o X.env) = eval o X.env := by rfl) (hline : (apos.endLine == pos.line) = true := by rfl) :
    PD c X (.Call (.Attribute o "index" apos) [e] [] pos) (dM1 sindexD ta tb) := pd_m1 F.slot_str_index F.type_str_index sindex_D ho he hs hbase hline

/-! ### ranges, enumerate, zip -/
def rngD (lo : Int) (n : Nat) : List D := (List.range n).map fun (i : Nat) => .int (lo + i)
@[simp] def dRng1 (ta : DA) : DI := fun ρ M Q => ta ρ M fun ds M1 => match ds with | [.int j] => (-100000 ≤ j ∧ j ≤ 100000) ∧ Q (rngD 0 j.toNat) M1 | _ => False
theorem pdi_range1 {tg : Expr} (hm : X.mg "range" = none) (ha : PDA c X [e] tl) (hg : Gl X "range" := by rfl) (hs : starEach [e] X.env = [(false, eval e X.env)] := by rfl) : PDI c X tg (.Call (.Name "range" p) [e] [] pos) (dRng1 tl) :=
  PI_imp (pi_range1 hg hm ha hs) fun σ H R ⟨ρ, w, Q', hH, a, h, k⟩ => ⟨ρ, w, _, hH, a, h, fun ds w1 vs q b r => by
    match ds, r, q with
    | [d], r, q =>
      obtain ⟨v, rfl, r1⟩ := one_of r
      cases d with
      | int j => obtain rfl : v = .int j := r1; exact ⟨j, rfl, by omega, by omega, k _ w1 _ q.2 b isIt_r⟩
      | _ => exact q.elim
    | [], r, q => exact False.elim q
    | d :: _ :: _, r, q => cases d <;> exact False.elim q⟩
def zipD (xs ys : List D) : List D := (xs.zip ys).map fun p => .tup [p.1, p.2]
theorem zip_at {xs ys : List D} {i : Nat} {d : D} (h : (zipD xs ys)[i]? = some d) : ∃ x y, xs[i]? = some x ∧ ys[i]? = some y ∧ d = .tup [x, y] := by
  unfold zipD at h
  rw [List.getElem?_map] at h
  cases e : (xs.zip ys)[i]? with
  | none => rw [e] at h; cases h
  | some q =>
    rw [e] at h
    obtain ⟨h1, h2⟩ := List.getElem?_zip_eq_some.mp e
    exact ⟨q.1, q.2, h1, h2, (Option.some.inj h).symm⟩
theorem isIt_zl {K : PySem.W.Frag} {w : Wd} {ds es : List D} {a b : Addr} {xs ys : List V} (h : LsAt w a xs) (h2 : LsAt w b ys) (r : RpL K w ds xs) (r2 : RpL K w es ys) : IsIt K w (zipD ds es) (Itz K a b) := fun w' k ok => by
  have ha := k.lst h
  have hb := k.lst h2
  have r' := r.mono k
  have r2' := r2.mono k
  have hl := r'.length
  have hl2 := r2'.length
  refine ⟨fun i d e => ?_, ⟨xs, ys, ha.sq, hb.sq, ?_⟩⟩
  · obtain ⟨x, y, e1, e2, rfl⟩ := zip_at e
    obtain ⟨v, f1, q1⟩ := r'.at e1
    obtain ⟨u, f2, q2⟩ := r2'.at e2
    refine ⟨⟨xs, ys, v, u, ha.sq, hb.sq, f1, f2⟩, fun z H'' yl => ?_⟩
    obtain ⟨T, v', u', rfl, hT, rfl, y1, y2⟩ := yl
    have z1 := y1 xs ha.sq
    have z2 := y2 ys hb.sq
    rw [f1] at z1; rw [f2] at z2
    cases z1; cases z2
    exact ⟨Bh.new ok hT, rp_tup ok hT ⟨v, [u], rfl, q1, u, [], rfl, q2, rfl⟩⟩
  · unfold zipD
    rw [List.length_map, List.length_zip]; omega
theorem isIt_zt {K : PySem.W.Frag} {w : Wd} {ds es : List D} {a b : Addr} {xs ys : List V} (h : TuAt K w a xs) (h2 : TuAt K w b ys) (r : RpL K w ds xs) (r2 : RpL K w es ys) : IsIt K w (zipD ds es) (RZ.ItzT K a b) := fun w' k ok => by
  have ha := k.tup h
  have hb := k.tup h2
  have r' := r.mono k
  have r2' := r2.mono k
  have hl := r'.length
  have hl2 := r2'.length
  refine ⟨fun i d e => ?_, ⟨xs, ys, ha.sq, hb.sq, ?_⟩⟩
  · obtain ⟨x, y, e1, e2, rfl⟩ := zip_at e
    obtain ⟨v, f1, q1⟩ := r'.at e1
    obtain ⟨u, f2, q2⟩ := r2'.at e2
    refine ⟨⟨xs, ys, v, u, ha.sq, hb.sq, f1, f2⟩, fun z H'' yl => ?_⟩
    obtain ⟨T, v', u', rfl, hT, rfl, y1, y2⟩ := yl
    have z1 := y1 xs ha.sq
    have z2 := y2 ys hb.sq
    rw [f1] at z1; rw [f2] at z2
    cases z1; cases z2
    exact ⟨Bh.new ok hT, rp_tup ok hT ⟨v, [u], rfl, q1, u, [], rfl, q2, rfl⟩⟩
  · unfold zipD
    rw [List.length_map, List.length_zip]; omega
@[simp] def dZip (ta : DA) : DI := fun ρ M Q => ta ρ M fun ds M1 => match ds with
  | [.lst xs, .lst ys] => Q (zipD xs ys) M1
  | [.tup xs, .tup ys] => Q (zipD xs ys) M1
  | _ => False
theorem pdi_zip {e2 : Expr} {elts : List Expr} {kk : Nat} {tpos : Pos} (hm : X.mg "zip" = none) (ha : PDA c X [e, e2] tl) (hg : Gl X "zip" := by rfl) (hs : starEach [e, e2] X.env = (false, eval e X.env) :: starEach [e2] X.env := by rfl) (hpl : (backTo pos (starEach [e2] X.env)).any (·.1) = false := by rfl) :
    PDI c X (.Tuple elts kk tpos) (.Call (.Name "zip" p) [e, e2] [] pos) (dZip tl) :=
  PI_imp (RZ.pi_zipA hg hm ha hs hpl) fun σ H R ⟨ρ, w, Q', hH, a, h, k⟩ => ⟨ρ, w, _, hH, a, h, fun ds w1 vs q b r => by
    match ds, r, q with
    | [d, d2], r, q =>
      obtain ⟨v, u, rfl, r1, r2⟩ := two_of r
      cases d with
      | lst xs => cases d2 with
        | lst ys =>
          obtain ⟨pa, as, rfl, l1, s1⟩ := r1
          obtain ⟨pb, bs, rfl, l2, s2⟩ := r2
          exact ⟨pa, pb, as, bs, rfl, .inl ⟨l1.sq, l2.sq, k _ w1 _ q b (isIt_zl l1 l2 s1 s2)⟩⟩
        | _ => exact q.elim
      | tup xs => cases d2 with
        | tup ys =>
          obtain ⟨pa, as, rfl, l1, s1⟩ := r1
          obtain ⟨pb, bs, rfl, l2, s2⟩ := r2
          exact ⟨pa, pb, as, bs, rfl, .inr ⟨l1.sq, l2.sq, k _ w1 _ q b (isIt_zt l1 l2 s1 s2)⟩⟩
        | _ => exact q.elim
      | _ => exact q.elim
    | [], r, q => exact False.elim q
    | [d], r, q => cases d <;> exact False.elim q
    | d :: d2 :: _ :: _, r, q => cases d <;> cases d2 <;> exact False.elim q⟩
def enumD (i : Nat) : List D → List D
  | [] => []
  | x :: xs => .tup [.int i, x] :: enumD (i + 1) xs
theorem enum_at : ∀ {xs : List D} {j i : Nat} {d : D}, (enumD j xs)[i]? = some d → ∃ x, xs[i]? = some x ∧ d = .tup [.int ((j + i : Nat)), x]
  | [], j, i, d, h => by simp [enumD] at h
  | x :: xs, j, 0, d, h => by
    simp only [enumD, List.getElem?_cons_zero, Option.some.injEq] at h
    exact ⟨x, rfl, h.symm⟩
  | x :: xs, j, i + 1, d, h => by
    simp only [enumD, List.getElem?_cons_succ] at h
    obtain ⟨y, h1, h2⟩ := enum_at (j := j + 1) h
    exact ⟨y, by simpa using h1, by rw [h2]; congr 3; omega⟩
theorem enum_len : ∀ (xs : List D) (j : Nat), (enumD j xs).length = xs.length
  | [], _ => rfl
  | x :: xs, j => by simp [enumD, enum_len xs]
theorem isIt_en {K : PySem.W.Frag} {w : Wd} {ds : List D} {a : Addr} {xs : List V} (h : LsAt w a xs) (r : RpL K w ds xs) : IsIt K w (enumD 0 ds) (Ite K a) := fun w' k ok => by
  have ha := k.lst h
  have r' := r.mono k
  have hl := r'.length
  refine ⟨fun i d e => ?_, ⟨xs, ha.sq, by rw [enum_len]; omega⟩⟩
  obtain ⟨x, e1, rfl⟩ := enum_at e
  obtain ⟨v, f1, q1⟩ := r'.at e1
  refine ⟨⟨xs, v, ha.sq, f1⟩, fun z H'' yl => ?_⟩
  obtain ⟨T, v', rfl, hT, rfl, y1⟩ := yl
  have z1 := y1 xs ha.sq
  rw [f1] at z1
  cases z1
  refine ⟨Bh.new ok hT, rp_tup ok hT ⟨.int (i : Nat), [v], rfl, ?_, v, [], rfl, q1, rfl⟩⟩
  show V.int _ = V.int _
  rw [Nat.zero_add]
@[simp] def dEnum (ta : DA) : DI := fun ρ M Q => ta ρ M fun ds M1 => match ds with
  | [.lst xs] => Q (enumD 0 xs) M1
  | _ => False
theorem pdi_enum {elts : List Expr} {kk : Nat} {tpos : Pos} (hm : X.mg "enumerate" = none) (ha : PDA c X [e] tl) (hg : Gl X "enumerate" := by rfl) (hs : starEach [e] X.env = [(false, eval e X.env)] := by rfl) :
    PDI c X (.Tuple elts kk tpos) (.Call (.Name "enumerate" p) [e] [] pos) (dEnum tl) :=
  PI_imp (pi_enum hg hm ha hs) fun σ H R ⟨ρ, w, Q', hH, a, h, k⟩ => ⟨ρ, w, _, hH, a, h, fun ds w1 vs q b r => by
    match ds, r, q with
    | [d], r, q =>
      obtain ⟨v, rfl, r1⟩ := one_of r
      cases d with
      | lst xs => obtain ⟨pa, as, rfl, l1, s1⟩ := r1; exact ⟨pa, as, rfl, l1.sq, k _ w1 _ q b (isIt_en l1 s1)⟩
      | _ => exact q.elim
    | [], r, q => exact False.elim q
    | d :: _ :: _, r, q => cases d <;> exact False.elim q⟩
end
end DL
/-! The data layer, part h: owned lists, a law's bag and its draws. -/
namespace DL
open PySem L2
def setM (M : Mu) (a : Addr) (m : MO) : Mu := fun b => if b = a then some m else M b
theorem setM_same {M : Mu} {a : Addr} {m : MO} : setM M a m a = some m := by unfold setM; rw [if_pos rfl]
theorem setM_ne {M : Mu} {a b : Addr} {m : MO} (h : b ≠ a) : setM M a m b = M b := by unfold setM; rw [if_neg h]
theorem setM_set {M : Mu} {a : Addr} {m n : MO} : setM (setM M a m) a n = setM M a n := by funext b; unfold setM; split <;> rfl
section
variable {K : PySem.W.Frag} {w : Wd} {a : Addr} {m : MO} {u : HO}
/-- an owned object changes -/
theorem Bh.own {m' : MO} (ok : Ok K w) (h : w.M a = some m) (hm : ∀ w', w'.H a = some u → Kp w w' → MOk K w' a m') : Bh K w { hd := w.hd, M := setM w.M a m', H := upd w.H a u } := by
  have hd := ok.ap a m h
  have kp : Kp w { hd := w.hd, M := setM w.M a m', H := upd w.H a u } := Kp.of fun b v hf e => by
    have hne : b ≠ a := fun z => by subst z; have := hf.1; rw [h] at this; cases this
    exact ⟨⟨by show setM w.M a m' b = none; rw [setM_ne hne]; exact hf.1, hf.2⟩, by show upd w.H a u b = _; rw [upd_ne hne]; exact e⟩
  refine ⟨kp, ⟨fun b n e => ?_, fun b v e => ?_, fun b n e => ?_⟩, rfl⟩
  · by_cases hb : b = a
    · subst hb
      have : m' = n := by have := (setM_same (M := w.M) (a := b) (m := m')).symm.trans e; exact Option.some.inj this
      subst this
      exact hm _ upd_same kp
    · have e' : w.M b = some n := by rw [← e]; exact (setM_ne hb).symm
      exact (ok.mo b n e').mono kp (by show upd w.H a u b = _; rw [upd_ne hb])
  · have hne : b ≠ a := fun z => by subst z; have e' : w.hd b = some v := e; rw [hd] at e'; cases e'
    show upd w.H a u b = _; rw [upd_ne hne]; exact ok.hid b v e
  · by_cases hb : b = a
    · subst hb; exact hd
    · have e' : w.M b = some n := by rw [← e]; exact (setM_ne hb).symm
      exact ok.ap b n e'
/-- a new owned object -/
theorem Bh.newOwn {m' : MO} (ok : Ok K w) (h : w.H a = none) (hm : ∀ w', w'.H a = some u → Kp w w' → MOk K w' a m') : Bh K w { hd := w.hd, M := setM w.M a m', H := upd w.H a u } := by
  have hf := ok.fresh h
  have kp : Kp w { hd := w.hd, M := setM w.M a m', H := upd w.H a u } := Kp.of fun b v hf e => by
    have hne : b ≠ a := ne_of_none e h
    exact ⟨⟨by show setM w.M a m' b = none; rw [setM_ne hne]; exact hf.1, hf.2⟩, by show upd w.H a u b = _; rw [upd_ne hne]; exact e⟩
  refine ⟨kp, ⟨fun b n e => ?_, fun b v e => ?_, fun b n e => ?_⟩, rfl⟩
  · by_cases hb : b = a
    · subst hb
      have : m' = n := by have := (setM_same (M := w.M) (a := b) (m := m')).symm.trans e; exact Option.some.inj this
      subst this
      exact hm _ upd_same kp
    · have e' : w.M b = some n := by rw [← e]; exact (setM_ne hb).symm
      exact (ok.mo b n e').mono kp (by show upd w.H a u b = _; rw [upd_ne hb])
  · have hne : b ≠ a := fun z => by subst z; have e' : w.hd b = some v := e; rw [hf.2] at e'; cases e'
    show upd w.H a u b = _; rw [upd_ne hne]; exact ok.hid b v e
  · by_cases hb : b = a
    · subst hb; exact hf.2
    · have e' : w.M b = some n := by rw [← e]; exact (setM_ne hb).symm
      exact ok.ap b n e'
end
theorem RpL.set {K : PySem.W.Frag} {w : Wd} {d : D} {v : V} (h : Rp K w d v) : ∀ {ds : List D} {vs : List V} (j : Nat), RpL K w ds vs → RpL K w (ds.set j d) (vs.set j v)
  | [], vs, j, r => by obtain rfl : vs = [] := r; exact rfl
  | e :: ds, vs, 0, r => by
    obtain ⟨x, q, rfl, r1, r2⟩ := r
    exact ⟨v, q, rfl, h, r2⟩
  | e :: ds, vs, j + 1, r => by
    obtain ⟨x, q, rfl, r1, r2⟩ := r
    exact ⟨x, q.set j v, rfl, r1, RpL.set h j r2⟩
section
variable {X : Cx} {c : Wd} {e o i : Expr} {es : List Expr} {te ta tb to' : DE} {tl : DA} {pos p apos : Pos} {vs : List Nat}
/-- [..]: a list that stays owned -/
@[simp] def dLstO (t : DA) : DE := fun ρ M Q => t ρ M fun ds M1 => ds.length ≤ 100000 ∧ ∀ a, M1 a = none → Q (.ref a) (setM M1 a (.lst ds))
theorem pd_lstO (h : PDA c X es tl) : PD c X (.List es pos) (dLstO tl) := PE_imp (pe_lst h) fun σ H Q ⟨ρ, w, Q', hH, a, h, k⟩ =>
  ⟨ρ, w, _, hH, a, h, fun ds w1 us q b1 r => ⟨sz (by rw [r.length]; exact q.1), fun p hp => k (.ref p) { hd := w1.hd, M := setM w1.M p (.lst ds), H := upd w1.H p (.lst us) } (.ref p) (q.2 p (b1.ok.fresh hp).1)
    (b1.trans (Bh.newOwn b1.ok hp fun w' e k' => ⟨us, e, r.mono k'⟩)) rfl⟩⟩
/-- [cells, 0, 0, mark]: a bag -/
@[simp] def dBag (t : DA) : DE := fun ρ M Q => t ρ M fun ds M1 => (∃ (cs : List Int) (i r m : Int), ds = [.lst (cs.map D.int), .int i, .int r, .int m] ∧ cs.length ≤ 63 ∧ 0 ≤ i) ∧ ∀ a, M1 a = none → Q (.ref a) (setM M1 a .bag)
theorem ints_of {K : PySem.W.Frag} {w : Wd} : ∀ {bs : List Int} {vs : List V}, RpL K w (bs.map D.int) vs → vs = bs.map V.int
  | [], vs, r => r
  | b :: bs, vs, r => by
    obtain ⟨x, q, rfl, r1, r2⟩ := r
    rw [ints_of r2, show x = V.int b from r1]; rfl
theorem bag_of {K : PySem.W.Frag} {w : Wd} {a : Addr} {cs : List Int} {i r m : Int} {us : List V} (e : w.H a = some (.lst us)) (h : RpL K w [.lst (cs.map D.int), .int i, .int r, .int m] us) (hl : cs.length ≤ 63) (hi : 0 ≤ i) : BagAt w a := by
  obtain ⟨v1, q1, rfl, r1, v2, q2, rfl, r2, v3, q3, rfl, r3, v4, q4, rfl, r4, r5⟩ := h
  obtain ⟨cp, xs, rfl, l, s1⟩ := r1
  obtain rfl : v2 = .int i := r2
  obtain rfl : v3 = .int r := r3
  obtain rfl : v4 = .int m := r4
  obtain rfl : q4 = [] := r5
  exact ⟨cp, cs, i, r, m, e, by rw [← ints_of s1]; exact l, hl, hi⟩
theorem pd_bag (h : PDA c X es tl) : PD c X (.List es pos) (dBag tl) := PE_imp (pe_lst h) fun σ H Q ⟨ρ, w, Q', hH, a, h, k⟩ =>
  ⟨ρ, w, _, hH, a, h, fun ds w1 us q b1 r => by
    obtain ⟨⟨cs, i, rr, m, rfl, hl, hi⟩, q⟩ := q
    exact ⟨sz (by rw [r.length]; show 4 ≤ 100000; decide), fun p hp => k (.ref p) { hd := w1.hd, M := setM w1.M p .bag, H := upd w1.H p (.lst us) } (.ref p) (q p (b1.ok.fresh hp).1)
      (b1.trans (Bh.newOwn b1.ok hp fun w' e k' => bag_of e (r.mono k') hl hi)) rfl⟩⟩
/-- o[i] = .., an owned list -/
@[simp] def gIx (to ti : DE) : DG := fun d ρ M Q => to ρ M fun x M1 => ti ρ M1 fun y M2 => match x, y with
  | .ref a, .int z => (match M2 a with | some (.lst ds) => (match ixN ds.length z with | some j => Q ρ (setM M2 a (.lst (ds.set j d))) | none => False) | _ => False)
  | _, _ => False
theorem pdg_ix {to ti : DE} (ho : PD c X o to) (hi : PD c X i ti)
    (ha : ∀ v, assign (.Subscript o i pos) X.env v = (do
      let ov ← holding [v] (eval o X.env)
      let iv ← holding [v, ov] (eval i X.env)
      standAt pos
      holding [v, ov, iv] (setItem ov iv v)
      release [v, ov, iv] []) := by intro _; rfl) : PDG c X vs (.Subscript o i pos) (gIx to ti) :=
  PG_imp (pg_sub ho hi set_list ha) fun v σ H Q ⟨d, ρ, w, Q', hH, a, r, h, k⟩ => ⟨ρ, w, _, hH, a, h, fun x w1 vx q b1 r1 => ⟨ρ, w1, _, rfl, a.next b1, q, fun y w2 vy q2 b2 r2 => by
    cases x with
    | ref ad =>
      cases y with
      | int z =>
        obtain rfl : vx = .ref ad := r1
        obtain rfl : vy = .int z := r2
        cases em : w2.M ad with
        | none => simp only [em] at q2
        | some m =>
          cases m with
          | lst ds =>
            simp only [em] at q2
            cases ej : ixN ds.length z with
            | none => simp only [ej] at q2
            | some j =>
              simp only [ej] at q2
              obtain ⟨xs, hx, s1⟩ := (show ∃ xs, w2.H ad = some (.lst xs) ∧ RpL X.K w2 ds xs from b2.ok.mo ad _ em)
              have b3 : Bh X.K w2 { hd := w2.hd, M := setM w2.M ad (.lst (ds.set j d)), H := upd w2.H ad (.lst (xs.set j v)) } := Bh.own b2.ok em fun w' e k' => ⟨_, e, RpL.set (((r.mono b1.kp).mono b2.kp).mono k') j (s1.mono k')⟩
              exact ⟨ad, xs, z, j, rfl, rfl, hx, by rw [s1.length]; exact ej, k ρ { hd := w2.hd, M := setM w2.M ad (.lst (ds.set j d)), H := upd w2.H ad (.lst (xs.set j v)) } σ q2 ((b1.trans b2).trans b3) (((a.next b1).next b2).next b3) (Ag.refl _ _)⟩
          | _ => simp only [em] at q2
      | _ => exact q2.elim
    | _ => exact q2.elim⟩⟩
/-- a, b = e1, e2 (two names) -/
theorem pds_par {x y : Str} {j l : Nat} {px py tp vp : Pos} {x1 x2 : Nat} {e1 e2 : Expr} (hN : X.N.Nodup) (ha : PDA c X [e1, e2] tl) (h : PS X (.Assign [.Tuple [.Name x px, .Name y py] x1 tp] (.Tuple [e1, e2] x2 vp) pos) (tPar j l (liftA X.K c tl))) :
    PDS c X (.Assign [.Tuple [.Name x px, .Name y py] x1 tp] (.Tuple [e1, e2] x2 vp) pos) (dPar j l tl) := PS_imp h fun D σ H ⟨ρ, w, D', hH, a, h, k⟩ => ⟨ρ, w, _, hH, a, h, fun ds w1 us q b r => by
    match ds, r, q with
    | [d1, d2], r, q =>
      obtain ⟨v1, v2, rfl, r1, r2⟩ := two_of r
      exact ⟨v1, v2, rfl, k.nx _ w1 _ q b (((a.next b).set r1).set r2)⟩
    | [], r, q => exact False.elim q
    | [_], r, q => exact False.elim q
    | _ :: _ :: _ :: _, r, q => exact False.elim q⟩
end

/-! ### the bag, opened for its own def alone -/
/-- a promise that speaks of the bag as an owned list gives one that keeps it shut -/
def opened (s : DSp) (b : Addr) : DSp := fun ds M Q => ∃ (cs : List Int) (i r m : Int), cs.length ≤ 63 ∧ 0 ≤ i ∧ s ds (setM M b (.lst [.lst (cs.map D.int), .int i, .int r, .int m])) fun d M' => Q d M'
theorem open_bag {K : PySem.W.Frag} {s' s : DSp} {vs : List V} {H : Hp} {Q : VK} {E : XK}
    (hs : ∀ ds M Q', s ds M Q' → ∃ b, M b = some .bag ∧ ∀ (cs : List Int) (i r m : Int), cs.length ≤ 63 → 0 ≤ i →
      s' ds (setM M b (.lst [.lst (cs.map D.int), .int i, .int r, .int m])) fun d M' => (∃ (i' r' m' : Int), 0 ≤ i' ∧ M' = setM M b (.lst [.lst (cs.map D.int), .int i', .int r', .int m'])) ∧ (∀ w v, Rp K w d v → ∀ w', Rp K w' d v) ∧ Q' d M)
    (h : up0 K s vs H Q E) : up0 K s' vs H Q E := by
  obtain ⟨w, ds, Q', hH, ok, r, h, k⟩ := h
  obtain ⟨b, hb, hs⟩ := hs ds _ _ h
  obtain ⟨cp, cs, i, rr, m, e, l, hl, hi⟩ := (show BagAt w b from ok.mo b _ hb)
  have hs := hs cs i rr m hl hi
  let D0 : List D := [.lst (cs.map D.int), .int i, .int rr, .int m]
  let w' : Wd := { hd := w.hd, M := setM w.M b (.lst D0), H := w.H }
  have fr : ∀ x, Fr w x ↔ Fr w' x := fun x => by
    unfold Fr
    by_cases hx : x = b
    · subst hx
      constructor
      · intro z; have := z.1; rw [hb] at this; cases this
      · intro z; have := z.1; rw [show w'.M x = some (.lst D0) from setM_same] at this; cases this
    · rw [show w'.M x = w.M x from setM_ne hx]
  have kp : Kp w w' := Kp.of fun x u hf e => ⟨(fr x).mp hf, e⟩
  have rD : RpL K w' D0 [.ref cp, .int i, .int rr, .int m] := ⟨_, _, rfl, ⟨cp, cs.map V.int, rfl, kp.lst l, ints_rp cs⟩, _, _, rfl, rfl, _, _, rfl, rfl, _, _, rfl, rfl, rfl⟩
  have ok' : Ok K w' := ⟨fun x n q => by
      by_cases hx : x = b
      · subst hx
        have : n = .lst D0 := Option.some.inj (q.symm.trans setM_same)
        subst this
        exact ⟨_, e, rD⟩
      · have q' : w.M x = some n := by rw [← q]; exact (setM_ne hx).symm
        exact (ok.mo x n q').mono kp rfl, ok.hid, fun x n q => by
      by_cases hx : x = b
      · subst hx; exact ok.ap x _ hb
      · have q' : w.M x = some n := by rw [← q]; exact (setM_ne hx).symm
        exact ok.ap x n q'⟩
  refine ⟨w', ds, _, hH, ok', r.mono kp, hs, fun d w2 v q b2 rv => ?_⟩
  obtain ⟨⟨i', r', m', hi', hM⟩, hfl, q⟩ := q
  -- the bag is shut again
  let w3 : Wd := { hd := w2.hd, M := w.M, H := w2.H }
  have fr3 : ∀ x, Fr w2 x ↔ Fr w3 x := fun x => by
    unfold Fr
    by_cases hx : x = b
    · subst hx
      constructor
      · intro z; have z1 := z.1; rw [hM, setM_same] at z1; cases z1
      · intro z; have z1 : w.M x = none := z.1; rw [hb] at z1; cases z1
    · rw [show w2.M x = w.M x by rw [hM]; exact setM_ne hx]
  have kp3 : Kp w2 w3 := Kp.of fun x u hf e => ⟨(fr3 x).mp hf, e⟩
  have ok3 : Ok K w3 := ⟨fun x n q => by
      by_cases hx : x = b
      · subst hx
        have : n = .bag := by have q' : w.M x = some n := q; rw [hb] at q'; exact (Option.some.inj q').symm
        subst this
        obtain ⟨us, e1, s1⟩ := (show ∃ us, w2.H x = some (.lst us) ∧ RpL K w2 [.lst (cs.map D.int), .int i', .int r', .int m'] us from b2.ok.mo x (.lst [.lst (cs.map D.int), .int i', .int r', .int m']) (by rw [hM]; exact setM_same))
        exact bag_of (w := w3) e1 (s1.mono kp3) hl hi'
      · have q' : w2.M x = some n := by rw [hM, setM_ne hx]; exact q
        exact (b2.ok.mo x n q').mono kp3 rfl, b2.ok.hid, fun x n q => by
      have z : w2.hd = w.hd := b2.hd
      show w2.hd x = none
      rw [z]; exact ok.ap x n q⟩
  exact k d w3 v q ⟨(kp.trans b2.kp).trans kp3, ok3, b2.hd⟩ (rv.mono kp3)
end DL
/-! The data layer, part i: globals, negative numbers, plain lemmas. -/
namespace DL
open PySem L2
section
variable {X : Cx} {c : Wd} {e : Expr} {te : DE} {pos : Pos} {x : Str}
theorem pd_globI {i : Int} (h : ∃ t, X.mg x = some (.int i t)) (hg : Gl X x := by rfl) (hd : (x == ("__debug__" : Str)) = false := by decide) : PD c X (.Name x pos) (dC (.int i)) := by
  obtain ⟨t, h⟩ := h
  exact pd_glob hg h (v := .int i) ⟨t, rfl⟩ (fun _ => rfl) hd
theorem pd_globS {z : Str} (h : ∃ t, X.mg x = some (.str z t)) (hg : Gl X x := by rfl) (hd : (x == ("__debug__" : Str)) = false := by decide) : PD c X (.Name x pos) (dC (.str z)) := by
  obtain ⟨t, h⟩ := h
  exact pd_glob hg h (v := .str z) ⟨t, rfl⟩ (fun _ => rfl) hd
@[simp] def dNeg (t : DE) : DE := fun ρ M Q => t ρ M fun d M1 => match d with | .int i => Q (.int (-i)) M1 | _ => False
theorem neg_D : UnR X (unaryOp .USub) (fun x H Q => ∃ w d Q', w.H = H ∧ Ok X.K w ∧ Rp X.K w d x ∧ (match d with | .int i => Q' (.int (-i)) w.M | _ => False) ∧ Wv X.K w Q' Q) := by
  intro pins s σ H x v Q I rx ⟨w, d, Q', hH, ok, r, h, k⟩
  subst hH
  cases d with
  | int i => obtain rfl : x = .int i := r; exact un_neg pins s σ _ _ v Q I rx ⟨i, rfl, k.here ok h rfl⟩
  | _ => exact False.elim h
theorem pd_neg (h : PD c X e te) : PD c X (.UnaryOp .USub e pos) (dNeg te) := PE_imp (pe_un neg_D h) fun σ H Q ⟨ρ, w, Q', hH, a, h, k⟩ =>
  ⟨ρ, w, _, hH, a, h, fun d w1 v q b r => ⟨w1, d, Q', rfl, b.ok, r, q, k.back b⟩⟩
end
/-! ### plain data of bounded size -/
def gd : Nat → D → Bool
  | _, .non => true
  | _, .bl _ => true
  | _, .int _ => true
  | _, .str x => PyData.strOk x && decide (x.length ≤ 50000)
  | n + 1, .lst xs => decide (xs.length ≤ 50000) && xs.all (gd n)
  | n + 1, .tup xs => decide (xs.length ≤ 50000) && xs.all (gd n)
  | _, _ => false
theorem gd_ty {n : Nat} {d : D} (h : gd n d = true) : (tyN d).isSome = true := by
  cases d <;> first | rfl | (cases n <;> exact Bool.noConfusion (show false = true from h))
theorem gd_str {n : Nat} {z : Str} (h : gd n (.str z) = true) : PyData.strOk z = true ∧ z.length ≤ 50000 := by
  cases n <;> simpa [gd] using h
theorem gd_tup {n : Nat} {xs : List D} (h : gd (n + 1) (.tup xs) = true) : xs.length ≤ 50000 ∧ ∀ x ∈ xs, gd n x = true := by
  simpa [gd] using h
theorem gd_lst {n : Nat} {xs : List D} (h : gd (n + 1) (.lst xs) = true) : xs.length ≤ 50000 ∧ ∀ x ∈ xs, gd n x = true := by
  simpa [gd] using h
theorem gd_mono : ∀ {n : Nat} {d : D}, gd n d = true → gd (n + 1) d = true
  | n, .non, _ => rfl
  | n, .bl _, _ => rfl
  | n, .int _, _ => rfl
  | n, .str z, h => by cases n <;> simpa [gd] using h
  | 0, .lst xs, h => by simp [gd] at h
  | n + 1, .lst xs, h => by
    obtain ⟨h1, h2⟩ := gd_lst h
    simp only [gd, Bool.and_eq_true, decide_eq_true_eq, List.all_eq_true]
    exact ⟨h1, fun x hx => gd_mono (h2 x hx)⟩
  | 0, .tup xs, h => by simp [gd] at h
  | n + 1, .tup xs, h => by
    obtain ⟨h1, h2⟩ := gd_tup h
    simp only [gd, Bool.and_eq_true, decide_eq_true_eq, List.all_eq_true]
    exact ⟨h1, fun x hx => gd_mono (h2 x hx)⟩
  | n, .dct _, h => by cases n <;> simp [gd] at h
  | n, .obj _ _, h => by cases n <;> simp [gd] at h
  | n, .ref _, h => by cases n <;> simp [gd] at h
  | n, .ty _, h => by cases n <;> simp [gd] at h
  | n, .scr _, h => by cases n <;> simp [gd] at h
theorem gd_le {n m : Nat} {d : D} (h : gd n d = true) (hm : n ≤ m) : gd m d = true := by
  induction hm with
  | refl => exact h
  | step _ ih => exact gd_mono ih
theorem gd_py : ∀ {n : Nat} {d : D}, gd n d = true → pyN n d = true
  | n, .non, _ => by cases n <;> rfl
  | n, .bl _, _ => by cases n <;> rfl
  | n, .int _, _ => by cases n <;> rfl
  | n, .str z, h => by cases n <;> exact (gd_str h).1
  | 0, .lst xs, h => by simp [gd] at h
  | n + 1, .lst xs, h => by
    obtain ⟨h1, h2⟩ := gd_lst h
    simp only [pyN, List.all_eq_true]
    exact fun x hx => gd_py (h2 x hx)
  | 0, .tup xs, h => by simp [gd] at h
  | n + 1, .tup xs, h => by
    obtain ⟨h1, h2⟩ := gd_tup h
    simp only [pyN, List.all_eq_true]
    exact fun x hx => gd_py (h2 x hx)
  | n, .dct _, h => by cases n <;> simp [gd] at h
  | n, .obj _ _, h => by cases n <;> simp [gd] at h
  | n, .ref _, h => by cases n <;> simp [gd] at h
  | n, .ty _, h => by cases n <;> simp [gd] at h
  | n, .scr _, h => by cases n <;> simp [gd] at h
@[simp] theorem eqB_bl (a b : Bool) : eqB (.bl a) (.bl b) = (a == b) := rfl
@[simp] theorem eqB_int (a b : Int) : eqB (.int a) (.int b) = (a == b) := rfl
@[simp] theorem eqB_str (a b : Str) : eqB (.str a) (.str b) = (a == b) := rfl
@[simp] theorem eqOk_bl (a b : Bool) : eqOk (.bl a) (.bl b) = true := rfl
@[simp] theorem eqOk_int (a b : Int) : eqOk (.int a) (.int b) = true := rfl
@[simp] theorem eqOk_str (a b : Str) : eqOk (.str a) (.str b) = true := rfl
/-! ### a law's own promises -/
/-- a number below many is drawn from the bag at b -/
def spDraw : DSp := fun ds M Q => ∃ b many, ds = [.ref b, .int many] ∧ M b = some .bag ∧ (0 < many ∧ many < 1073741824) ∧ ∀ n : Int, 0 ≤ n → n < many → Q (.int n) M
def spPick : DSp := fun ds M Q => (∃ b xs, ds = [.ref b, .lst xs] ∧ M b = some .bag ∧ (0 < xs.length ∧ xs.length ≤ 100000) ∧ ∀ x ∈ xs, Q x M) ∨
  (∃ b xs, ds = [.ref b, .tup xs] ∧ M b = some .bag ∧ (0 < xs.length ∧ xs.length ≤ 100000) ∧ ∀ x ∈ xs, Q x M) ∨
  ∃ b z, ds = [.ref b, .str z] ∧ M b = some .bag ∧ (0 < z.length ∧ z.length ≤ 100000) ∧ ∀ ch ∈ z.cps.toList, Q (.str ⟨#[ch]⟩) M
def spBag : DSp := fun ds M Q => ∃ ns : List Int, ds = [.scr ns] ∧ ns.length ≤ 63 ∧ ∀ b, M b = none → Q (.ref b) (setM M b .bag)
def spLaw : DSp := fun ds M Q => ∃ ns : List Int, ds = [.scr ns] ∧ ns.length ≤ 63 ∧ M = (fun _ => none) ∧ ∀ M', Q (.bl true) M'
/-- same of two plain data -/
def spSame (n : Nat) : DSp := fun ds M Q => ∃ x y, ds = [x, y] ∧ gd n x = true ∧ gd n y = true ∧ ∀ k : Bool, (k = true ↔ x = y) → Q (.bl k) M
theorem atI_some {α : Type} {xs : List α} {i : Int} (h0 : 0 ≤ i) (h1 : i < xs.length) : ∃ x, atI xs i = some x ∧ x ∈ xs := by
  unfold atI ixN
  rw [if_pos h0, if_pos h1]
  have h2 : i.toNat < xs.length := by omega
  exact ⟨xs[i.toNat], by simp [h2], List.getElem_mem h2⟩
/-! ### comprehensions, by what their elements are -/
theorem compi_of {α : Type} {g : DG} {te : DE} {ρ : DEnv} {M : Mu} {h f : α → D} : ∀ (l : List α) (acc : List D) (Q : DK), (∀ a ∈ l, ∀ Q : DK, Q (f a) M → g (h a) ρ M fun ρ1 M1 => te ρ1 M1 Q) → acc.length + l.length ≤ 100000 → Q (.lst (acc ++ l.map f)) M → compi g dYes te ρ (l.map h) acc M Q
  | [], acc, Q, _, hl, q => by simpa [compi] using q
  | x :: xs, acc, Q, hh, hl, q => by
    rw [List.map_cons, compi]
    show g (h x) ρ M fun ρ1 M1 => te ρ1 M1 fun d M3 => acc.length < 100000 ∧ compi g dYes te ρ (xs.map h) (acc ++ [d]) M3 Q
    refine hh x List.mem_cons_self _ ⟨by simp at hl; omega, compi_of xs (acc ++ [f x]) Q (fun y hy => hh y (List.mem_cons_of_mem _ hy)) (by simp at hl ⊢; omega) ?_⟩
    simpa using q
/-- each element is some datum with P -/
theorem compi_any {g : DG} {te : DE} {ρ : DEnv} {M : Mu} {P : D → Prop} : ∀ (xs acc : List D) (Q : DK), (∀ x ∈ xs, ∀ Q : DK, (∀ d, P d → Q d M) → g x ρ M fun ρ1 M1 => te ρ1 M1 Q) → acc.length + xs.length ≤ 100000 →
    (∀ ds : List D, ds.length = xs.length → (∀ d ∈ ds, P d) → Q (.lst (acc ++ ds)) M) → compi g dYes te ρ xs acc M Q
  | [], acc, Q, _, hl, q => by simpa [compi] using q [] rfl (by simp)
  | x :: xs, acc, Q, hh, hl, q => by
    rw [compi]
    show g x ρ M fun ρ1 M1 => te ρ1 M1 fun d M3 => acc.length < 100000 ∧ compi g dYes te ρ xs (acc ++ [d]) M3 Q
    refine hh x List.mem_cons_self _ fun d hd => ⟨by simp at hl; omega, compi_any xs (acc ++ [d]) Q (fun y hy => hh y (List.mem_cons_of_mem _ hy)) (by simp at hl ⊢; omega) fun ds h1 h2 => ?_⟩
    have := q (d :: ds) (by simp [h1]) (by simpa using ⟨hd, h2⟩)
    simpa using this
theorem rngD_len (lo : Int) (n : Nat) : (rngD lo n).length = n := by simp [rngD]
theorem signs_len (z : Str) : (signs z).length = z.length := by simp [signs, Str.length]
/-- each element is some datum in a relation to its item -/
theorem compi_rel {g : DG} {te : DE} {ρ : DEnv} {M : Mu} {P : D → D → Prop} : ∀ (xs acc : List D) (Q : DK), (∀ x ∈ xs, ∀ Q : DK, (∀ d, P x d → Q d M) → g x ρ M fun ρ1 M1 => te ρ1 M1 Q) → acc.length + xs.length ≤ 100000 →
    (∀ ds : List D, Paired P xs ds → Q (.lst (acc ++ ds)) M) → compi g dYes te ρ xs acc M Q
  | [], acc, Q, _, hl, q => by simpa [compi] using q [] .nil
  | x :: xs, acc, Q, hh, hl, q => by
    rw [compi]
    show g x ρ M fun ρ1 M1 => te ρ1 M1 fun d M3 => acc.length < 100000 ∧ compi g dYes te ρ xs (acc ++ [d]) M3 Q
    refine hh x List.mem_cons_self _ fun d hd => ⟨by simp at hl; omega, compi_rel xs (acc ++ [d]) Q (fun y hy => hh y (List.mem_cons_of_mem _ hy)) (by simp at hl ⊢; omega) fun ds h1 => ?_⟩
    have := q (d :: ds) (.cons hd h1)
    simpa using this
/-- the answers of same, pair by pair -/
theorem same_all : ∀ {xs ys ds : List D}, xs.length = ys.length → Paired (fun z d => ∀ x y, z = .tup [x, y] → ∃ k : Bool, d = .bl k ∧ (k = true ↔ x = y)) (zipD xs ys) ds → ∃ bs : List Bool, ds = bs.map D.bl ∧ (bs.all id = true ↔ xs = ys)
  | [], [], ds, _, h => by cases h; exact ⟨[], rfl, by simp⟩
  | [], _ :: _, _, h, _ => by cases h
  | _ :: _, [], _, h, _ => by cases h
  | x :: xs, y :: ys, ds, hl, h => by
    have e : zipD (x :: xs) (y :: ys) = .tup [x, y] :: zipD xs ys := rfl
    rw [e] at h
    cases h with
    | cons h1 h2 =>
      obtain ⟨k, rfl, hk⟩ := h1 x y rfl
      obtain ⟨bs, rfl, hb⟩ := same_all (by simpa using hl) h2
      refine ⟨k :: bs, rfl, ?_⟩
      simp only [List.all_cons, id, Bool.and_eq_true, List.cons.injEq]
      rw [hk]
      exact and_congr_right fun _ => hb
def spPrev : Nat → DSp
  | 0 => fun _ _ _ => False
  | n + 1 => spSame n
theorem pyN_lst {n : Nat} {xs : List D} (h : pyN (n + 1) (.lst xs) = true) : ∀ x ∈ xs, pyN n x = true := by simpa [pyN] using h
theorem pyN_tup {n : Nat} {xs : List D} (h : pyN (n + 1) (.tup xs) = true) : ∀ x ∈ xs, pyN n x = true := by simpa [pyN] using h
/-! ### texts -/
theorem strs_ex {p : Str → Prop} : ∀ {ds : List D}, (∀ d ∈ ds, ∃ z, d = .str z ∧ p z) → ∃ ys : List Str, ds = ys.map D.str ∧ ∀ y ∈ ys, p y
  | [], _ => ⟨[], rfl, by simp⟩
  | d :: ds, h => by
    obtain ⟨z, rfl, hz⟩ := h d List.mem_cons_self
    obtain ⟨ys, rfl, hy⟩ := strs_ex (ds := ds) fun e he => h e (List.mem_cons_of_mem _ he)
    exact ⟨z :: ys, rfl, by simpa using ⟨hz, hy⟩⟩
theorem joinL_nil : ∀ l : List (List Nat), TL.joinL [] l = l.flatten
  | [] => rfl
  | [p] => by simp [TL.joinL]
  | p :: q :: r => by simp [TL.joinL, joinL_nil (q :: r)]
theorem join0_tl (ys : List Str) : (Txt.join "" ys).cps.toList = (ys.map fun y => y.cps.toList).flatten := by
  rw [TL.join_eq]
  have h := TL.tl_join "" ys
  have e : TL.tl ("" : Str) = [] := by decide +kernel
  rw [e, joinL_nil] at h
  exact h
theorem len_cps (z : Str) : z.cps.toList.length = z.length := by simp [Str.length]
theorem strOk_iff (z : Str) : PyData.strOk z = true ↔ ∀ c ∈ z.cps.toList, c < 1114112 := by
  unfold PyData.strOk
  rw [Array.all_eq_true_iff_forall_mem]
  simp
theorem app_tl (a b : Str) : (a ++ b).cps.toList = a.cps.toList ++ b.cps.toList := by
  show (a.cps ++ b.cps).toList = _
  simp
theorem app_len (a b : Str) : (a ++ b).length = a.length + b.length := by
  rw [← len_cps, app_tl, List.length_append, len_cps, len_cps]
theorem strOk_app {a b : Str} (ha : PyData.strOk a = true) (hb : PyData.strOk b = true) : PyData.strOk (a ++ b) = true := by
  rw [strOk_iff] at *
  intro c hc
  rw [app_tl] at hc
  rcases List.mem_append.mp hc with h | h
  · exact ha c h
  · exact hb c h
theorem cutS_tl (z : Str) (lo hi : Option Int) : (cutS z lo hi).cps.toList = cut z.cps.toList lo hi := by
  unfold cutS cut
  rw [len_cps]
theorem cutS_len (z : Str) (lo hi : Option Int) : (cutS z lo hi).length ≤ z.length := by
  rw [← len_cps, cutS_tl, ← len_cps z]
  exact cut_len _ _ _
theorem cut_mem {α : Type} {xs : List α} {lo hi : Option Int} {x : α} (h : x ∈ cut xs lo hi) : x ∈ xs := List.mem_of_mem_drop (List.mem_of_mem_take h)
theorem strOk_cut {z : Str} (h : PyData.strOk z = true) (lo hi : Option Int) : PyData.strOk (cutS z lo hi) = true := by
  rw [strOk_iff] at *
  intro c hc
  rw [cutS_tl] at hc
  exact h c (cut_mem hc)
theorem flat_len {ys : List Str} {n : Nat} (h : ∀ y ∈ ys, y.length ≤ n) : ((ys.map fun y => y.cps.toList).flatten).length ≤ ys.length * n := by
  induction ys with
  | nil => simp
  | cons y ys ih =>
    have h1 := h y List.mem_cons_self
    have h2 := ih fun z hz => h z (List.mem_cons_of_mem _ hz)
    rw [List.map_cons, List.flatten_cons, List.length_append, len_cps, List.length_cons, Nat.add_mul]
    omega
theorem sum_len {ys : List Str} {n : Nat} (h : ∀ y ∈ ys, y.length ≤ n) : (ys.map (·.length)).sum ≤ ys.length * n := by
  induction ys with
  | nil => simp
  | cons y ys ih =>
    have h1 := h y List.mem_cons_self
    have h2 := ih fun z hz => h z (List.mem_cons_of_mem _ hz)
    rw [List.map_cons, List.sum_cons, List.length_cons, Nat.add_mul]
    omega
theorem join0_ok {ys : List Str} (h : ∀ y ∈ ys, PyData.strOk y = true) : PyData.strOk (Txt.join "" ys) = true := by
  rw [strOk_iff, join0_tl]
  intro c hc
  obtain ⟨l, hl, hc⟩ := List.mem_flatten.mp hc
  obtain ⟨y, hy, rfl⟩ := List.mem_map.mp hl
  exact (strOk_iff y).mp (h y hy) c hc
theorem join0_len {ys : List Str} {n : Nat} (h : ∀ y ∈ ys, y.length ≤ n) : (Txt.join "" ys).length ≤ ys.length * n := by
  rw [← len_cps, join0_tl]
  exact flat_len h
/-! ### statements, one at a time: what an expression gives, then the rest -/
section
variable {t u : DS} {te : DE} {tt : DT} {ti : DI} {g : DG} {E : DEnds} {ρ : DEnv} {M : Mu} {i j : Nat} {v v' : D} {b : Bool} {ds : List D}
theorem x_seq (h : t { nx := u E, rt := E.rt, bk := E.bk, ct := E.ct } ρ M) : dSeq t u E ρ M := h
theorem x_set (h : ∀ K : DK, K v M → te ρ M K) (k : E.nx (ρ.set i (some v)) M) : dAsg te (gNm i) E ρ M := h _ k
theorem x_setP (P : D → Mu → Prop) (h : ∀ K : DK, (∀ d M1, P d M1 → K d M1) → te ρ M K) (k : ∀ d M1, P d M1 → E.nx (ρ.set i (some d)) M1) : dAsg te (gNm i) E ρ M := h _ k
theorem x_asg (h : ∀ K : DK, K v M → te ρ M K) (k : g v ρ M E.nx) : dAsg te g E ρ M := h _ k
theorem x_par {ta : DA} (h : ∀ K : List D → Mu → Prop, K [v, v'] M → ta ρ M K) (k : E.nx ((ρ.set i (some v)).set j (some v')) M) : dPar i j ta E ρ M := h _ k
theorem x_parP {ta : DA} (P : D → D → Prop) (h : ∀ K : List D → Mu → Prop, (∀ v v', P v v' → K [v, v'] M) → ta ρ M K) (k : ∀ v v', P v v' → E.nx ((ρ.set i (some v)).set j (some v')) M) : dPar i j ta E ρ M := h _ k
theorem x_if (h : ∀ K : Bool → Mu → Prop, K b M → tt ρ M K) (h1 : b = true → t E ρ M) (h2 : b = false → u E ρ M) : dIfS tt t u E ρ M := h _ (by
  cases b with
  | true => exact iteT (h1 rfl)
  | false => exact iteF (h2 rfl))
theorem x_ifP (P : Bool → Prop) (h : ∀ K : Bool → Mu → Prop, (∀ b, P b → K b M) → tt ρ M K) (h1 : P true → t E ρ M) (h2 : P false → u E ρ M) : dIfS tt t u E ρ M := h _ fun b hb => by
  cases b with
  | true => exact iteT (h1 hb)
  | false => exact iteF (h2 hb)
theorem x_ret (h : ∀ K : DK, K v M → te ρ M K) (k : E.rt v M) : dRet te E ρ M := h _ k
theorem x_retP (P : D → Mu → Prop) (h : ∀ K : DK, (∀ d M1, P d M1 → K d M1) → te ρ M K) (k : ∀ d M1, P d M1 → E.rt d M1) : dRet te E ρ M := h _ k
theorem x_drop (h : ∀ K : DK, K v M → te ρ M K) (k : E.nx ρ M) : dDrop te E ρ M := h _ k
theorem x_for (h : ∀ K : List D → Mu → Prop, K ds M → ti ρ M K) (k : fori g t ds E ρ M) : dFor ti g t E ρ M := h _ k
theorem x_forP (P : List D → Mu → Prop) (h : ∀ K : List D → Mu → Prop, (∀ ds M1, P ds M1 → K ds M1) → ti ρ M K) (k : ∀ ds M1, P ds M1 → fori g t ds E ρ M1) : dFor ti g t E ρ M := h _ k
theorem x_nil {nx : DEnv → Mu → Prop} {rt : DK} {bk ct : DEnv → Mu → Prop} (k : nx ρ M) : fori g t [] { nx := nx, rt := rt, bk := bk, ct := ct } ρ M := k
theorem x_cons {x : D} {xs : List D} (k : g x ρ M fun ρ1 M1 => t { nx := fori g t xs E, rt := E.rt, bk := E.nx, ct := fori g t xs E } ρ1 M1) : fori g t (x :: xs) E ρ M := k
end
/-! ### the same with what stands behind -/
section
variable {t u w' : DS} {te : DE} {tt : DT} {ti : DI} {g : DG} {E : DEnds} {ρ : DEnv} {M : Mu} {i j : Nat} {v v' : D} {b : Bool} {ds : List D}
theorem s_set (h : ∀ K : DK, K v M → te ρ M K) (k : u E (ρ.set i (some v)) M) : dSeq (dAsg te (gNm i)) u E ρ M := h _ k
theorem s_setP (P : D → Mu → Prop) (h : ∀ K : DK, (∀ d M1, P d M1 → K d M1) → te ρ M K) (k : ∀ d M1, P d M1 → u E (ρ.set i (some d)) M1) : dSeq (dAsg te (gNm i)) u E ρ M := h _ k
/-- .. the store as it was -/
theorem s_setQ (P : D → Prop) (h : ∀ K : DK, (∀ d, P d → K d M) → te ρ M K) (k : ∀ d, P d → u E (ρ.set i (some d)) M) : dSeq (dAsg te (gNm i)) u E ρ M := h _ k
theorem s_asg (h : ∀ K : DK, K v M → te ρ M K) (k : g v ρ M (u E)) : dSeq (dAsg te g) u E ρ M := h _ k
theorem s_par {ta : DA} (h : ∀ K : List D → Mu → Prop, K [v, v'] M → ta ρ M K) (k : u E ((ρ.set i (some v)).set j (some v')) M) : dSeq (dPar i j ta) u E ρ M := h _ k
theorem s_parP {ta : DA} (P : D → D → Prop) (h : ∀ K : List D → Mu → Prop, (∀ v v', P v v' → K [v, v'] M) → ta ρ M K) (k : ∀ v v', P v v' → u E ((ρ.set i (some v)).set j (some v')) M) : dSeq (dPar i j ta) u E ρ M := h _ k
theorem s_if (h : ∀ K : Bool → Mu → Prop, K b M → tt ρ M K) (h1 : b = true → t { nx := u E, rt := E.rt, bk := E.bk, ct := E.ct } ρ M) (h2 : b = false → w' { nx := u E, rt := E.rt, bk := E.bk, ct := E.ct } ρ M) : dSeq (dIfS tt t w') u E ρ M := x_if h h1 h2
theorem s_ifP (P : Bool → Prop) (h : ∀ K : Bool → Mu → Prop, (∀ b, P b → K b M) → tt ρ M K) (h1 : P true → t { nx := u E, rt := E.rt, bk := E.bk, ct := E.ct } ρ M) (h2 : P false → w' { nx := u E, rt := E.rt, bk := E.bk, ct := E.ct } ρ M) : dSeq (dIfS tt t w') u E ρ M := x_ifP P h h1 h2
theorem s_drop (h : ∀ K : DK, K v M → te ρ M K) (k : u E ρ M) : dSeq (dDrop te) u E ρ M := h _ k
theorem s_for (h : ∀ K : List D → Mu → Prop, K ds M → ti ρ M K) (k : fori g t ds { nx := u E, rt := E.rt, bk := E.bk, ct := E.ct } ρ M) : dSeq (dFor ti g t) u E ρ M := h _ k
theorem s_forP (P : List D → Mu → Prop) (h : ∀ K : List D → Mu → Prop, (∀ ds M1, P ds M1 → K ds M1) → ti ρ M K) (k : ∀ ds M1, P ds M1 → fori g t ds { nx := u E, rt := E.rt, bk := E.bk, ct := E.ct } ρ M1) : dSeq (dFor ti g t) u E ρ M := h _ k
theorem s_ix {a n : Nat} {z : Int} {p : Addr} {xs : List D} (hρ : ρ[a]? = some (some (.ref p))) (hM : M p = some (.lst xs)) (hj : ixN xs.length z = some n) (h : ∀ K : DK, K v M → te ρ M K) (k : u E ρ (setM M p (.lst (xs.set n v)))) : dSeq (dAsg te (gIx (dVar a) (dC (.int z)))) u E ρ M :=
  h _ (by simp only [gIx, dVar, dC, hρ, hM, hj]; exact k)
theorem x_ix {a n : Nat} {z : Int} {p : Addr} {xs : List D} (hρ : ρ[a]? = some (some (.ref p))) (hM : M p = some (.lst xs)) (hj : ixN xs.length z = some n) (h : ∀ K : DK, K v M → te ρ M K) (k : E.nx ρ (setM M p (.lst (xs.set n v)))) : dAsg te (gIx (dVar a) (dC (.int z))) E ρ M :=
  h _ (by simp only [gIx, dVar, dC, hρ, hM, hj]; exact k)
theorem s_next {nx : DEnv → Mu → Prop} {rt : DK} {bk ct : DEnv → Mu → Prop} (k : nx ρ M) : dNext { nx := nx, rt := rt, bk := bk, ct := ct } ρ M := k
end
/-! ### the law's entry, the bag shut, same at each depth -/
theorem law_in {K : PySem.W.Frag} {H : Hp} {a : Addr} {ns : List Int} (hl : ns.length ≤ 63) (hS : SqL K H a (ns.map V.int)) : up0 K spLaw [.ref a] H (fun v _ => v = .bl true) fun _ _ _ => False := by
  refine ⟨{ hd := fun _ => none, M := fun _ => none, H := H }, [.scr ns], fun d _ => d = .bl true, rfl, ⟨fun _ _ e => (by cases e), fun _ _ e => (by cases e), fun _ _ e => (by cases e)⟩, ⟨.ref a, [], rfl, ⟨a, rfl, ?_⟩, rfl⟩, ⟨ns, rfl, hl, rfl, fun _ => rfl⟩, fun d w' v q b r => ?_⟩
  · rcases hS with h | h
    · exact .inl ⟨⟨rfl, rfl⟩, h⟩
    · exact .inr fun H' => .inr h
  · have q' : d = .bl true := q
    subst q'
    exact r
/-- a promise of the bag's own def, opened -/
def spDraw0 : DSp := fun ds M Q => ∃ b many, ∃ (cs : List Int) (i r m : Int), ds = [.ref b, .int many] ∧ M b = some (.lst [.lst (cs.map D.int), .int i, .int r, .int m]) ∧ 0 ≤ i ∧ (0 < many ∧ many < 1073741824) ∧
  ∀ n i' r' : Int, 0 ≤ n → n < many → 0 ≤ i' → Q (.int n) (setM M b (.lst [.lst (cs.map D.int), .int i', .int r', .int m]))
theorem draw_ok {P : Program} {w : World} {K : PySem.W.Frag} {mg : Str → Option Value} {base : Heap} {k : Nat} {f : Addr} {fd : FuncData} {ps : List Str} (F : FnOk P w K mg base CX0 k f fd ps (up0 K spDraw0)) : FnOk P w K mg base CX0 k f fd ps (up0 K spDraw) :=
  F.imp fun vs H Q E h => open_bag (s := spDraw) (s' := spDraw0) (fun ds M Q' hs => by
    obtain ⟨b, many, rfl, hb, hm, q⟩ := hs
    refine ⟨b, hb, fun cs i r m hl hi => ⟨b, many, cs, i, r, m, rfl, setM_same, hi, hm, fun n i' r' h0 h1 hi' => ⟨⟨i', r', m, hi', setM_set⟩, fun w v z w' => z, q n h0 h1⟩⟩⟩) h
/-- a promise that nobody asks for -/
theorem Fnd.no {P : Program} {w : World} {K : PySem.W.Frag} {mg : Str → Option Value} {base : Heap} {k : Nat} {x : Str} {st : Stmt} {ps : List Str} {f : Addr} {fd : FuncData} (F : FunD K x x (defArgs st) (defBody st) (defScope st) [] [] f fd) (hm : mg x = some (.ref f)) (hb : Binds K fd ps []) : Fnd P w K mg base k x st ps (spPrev 0) :=
  ⟨f, fd, F, ⟨fun _ _ _ _ ⟨_, _, _, _, _, _, h, _⟩ => h.elim, fun _ _ _ _ _ _ _ _ _ _ _ _ _ ⟨_, _, _, _, _, _, h, _⟩ => h.elim⟩, hm, hb⟩
end DL
/-! The text by places, scopes. Printed by a program of mine. -/
namespace K01
open PySem L2 DL
def top (i : Nat) : Stmt := PySem.Challenge.pw_highestsky_k01_words_judged.main.body.getD i (.Pass ⟨0, 0, 0, 0⟩)
abbrev s_is_number : Stmt := top 7
abbrev s_is_name : Stmt := top 8
abbrev s_is_cell : Stmt := top 9
abbrev s_is_place : Stmt := top 10
abbrev s_number_in : Stmt := top 11
abbrev s__law_bag : Stmt := top 13
abbrev s__law_draw : Stmt := top 14
abbrev s__law_pick : Stmt := top 15
abbrev s__law_same : Stmt := top 16
abbrev s__law_odd : Stmt := top 17
abbrev s__law_count : Stmt := top 18
abbrev s__law_word : Stmt := top 19
abbrev s__law_figures : Stmt := top 20
abbrev s__law_is_count : Stmt := top 21
abbrev s__law_is_tuple : Stmt := top 22
abbrev s__law_is_word : Stmt := top 23
abbrev s__law_number_of : Stmt := top 24
abbrev s__law_judged_so : Stmt := top 25
abbrev s_law : Stmt := top 26
theorem sc_is_number : FnScope ["value", "least", "most"] ["value", "least", "most"] (defScope s_is_number) := ⟨rfl, rfl, rfl, by decide +kernel, rfl, by decide +kernel, by decide +kernel⟩
theorem sc_is_name : FnScope ["value", "letter"] ["value"] (defScope s_is_name) := ⟨rfl, rfl, rfl, by decide +kernel, rfl, by decide +kernel, by decide +kernel⟩
theorem sc_is_cell : FnScope ["value"] ["value"] (defScope s_is_cell) := ⟨rfl, rfl, rfl, by decide +kernel, rfl, by decide +kernel, by decide +kernel⟩
theorem sc_is_place : FnScope ["value"] ["value"] (defScope s_is_place) := ⟨rfl, rfl, rfl, by decide +kernel, rfl, by decide +kernel, by decide +kernel⟩
theorem sc_number_in : FnScope ["text", "digit"] ["text"] (defScope s_number_in) := ⟨rfl, rfl, rfl, by decide +kernel, rfl, by decide +kernel, by decide +kernel⟩
theorem sc__law_bag : FnScope ["_law_script", "_law_cells_z", "_law_cell_z", "_law_mark"] ["_law_script"] (defScope s__law_bag) := ⟨rfl, rfl, rfl, by decide +kernel, rfl, by decide +kernel, by decide +kernel⟩
theorem sc__law_draw : FnScope ["_law_bag_here", "_law_many", "_law_cell_z", "_law_mixed", "_law_second", "_law_digit"] ["_law_bag_here", "_law_many"] (defScope s__law_draw) := ⟨rfl, rfl, rfl, by decide +kernel, rfl, by decide +kernel, by decide +kernel⟩
theorem sc__law_pick : FnScope ["_law_bag_here", "_law_some"] ["_law_bag_here", "_law_some"] (defScope s__law_pick) := ⟨rfl, rfl, rfl, by decide +kernel, rfl, by decide +kernel, by decide +kernel⟩
theorem sc__law_same : FnScope ["_law_found", "_law_due", "_law_one", "_law_two"] ["_law_found", "_law_due"] (defScope s__law_same) := ⟨rfl, rfl, rfl, by decide +kernel, rfl, by decide +kernel, by decide +kernel⟩
theorem sc__law_odd : FnScope ["_law_bag_here"] ["_law_bag_here"] (defScope s__law_odd) := ⟨rfl, rfl, rfl, by decide +kernel, rfl, by decide +kernel, by decide +kernel⟩
theorem sc__law_count : FnScope ["_law_bag_here"] ["_law_bag_here"] (defScope s__law_count) := ⟨rfl, rfl, rfl, by decide +kernel, rfl, by decide +kernel, by decide +kernel⟩
theorem sc__law_word : FnScope ["_law_bag_here", "_law_letters", "_law_found", "_law_k", "_law_spot"] ["_law_bag_here"] (defScope s__law_word) := ⟨rfl, rfl, rfl, by decide +kernel, rfl, by decide +kernel, by decide +kernel⟩
theorem sc__law_figures : FnScope ["_law_bag_here", "_law_found", "_law_k", "_law_way", "_law_spot"] ["_law_bag_here"] (defScope s__law_figures) := ⟨rfl, rfl, rfl, by decide +kernel, rfl, by decide +kernel, by decide +kernel⟩
theorem sc__law_is_count : FnScope ["_law_thing", "_law_low", "_law_high"] ["_law_thing", "_law_low", "_law_high"] (defScope s__law_is_count) := ⟨rfl, rfl, rfl, by decide +kernel, rfl, by decide +kernel, by decide +kernel⟩
theorem sc__law_is_tuple : FnScope ["_law_thing", "_law_highs", "_law_one", "_law_high"] ["_law_thing", "_law_highs"] (defScope s__law_is_tuple) := ⟨rfl, rfl, rfl, by decide +kernel, rfl, by decide +kernel, by decide +kernel⟩
theorem sc__law_is_word : FnScope ["_law_thing", "_law_sign"] ["_law_thing"] (defScope s__law_is_word) := ⟨rfl, rfl, rfl, by decide +kernel, rfl, by decide +kernel, by decide +kernel⟩
theorem sc__law_number_of : FnScope ["_law_thing", "_law_found", "_law_sign"] ["_law_thing"] (defScope s__law_number_of) := ⟨rfl, rfl, rfl, by decide +kernel, rfl, by decide +kernel, by decide +kernel⟩
theorem sc__law_judged_so : FnScope ["_law_thing", "_law_low", "_law_high", "_law_found", "_law_due"] ["_law_thing", "_law_low", "_law_high"] (defScope s__law_judged_so) := ⟨rfl, rfl, rfl, by decide +kernel, rfl, by decide +kernel, by decide +kernel⟩
theorem sc_law : FnScope ["_law_script", "_law_bag_here", "_law_turn", "_law_low", "_law_high", "_law_some", "_law_items", "_law_k", "_law_spot", "_law_bent", "_law_row_z", "_law_thing", "_law_number", "_law_found"] ["_law_script"] (defScope s_law) := ⟨rfl, rfl, rfl, by decide +kernel, rfl, by decide +kernel, by decide +kernel⟩
structure Gb (mg : Str → Option Value) : Prop where
  b_all : mg "all" = none
  b_bool : mg "bool" = none
  b_int : mg "int" = none
  b_isinstance : mg "isinstance" = none
  b_len : mg "len" = none
  b_list : mg "list" = none
  b_range : mg "range" = none
  b_str : mg "str" = none
  b_tuple : mg "tuple" = none
  b_zip : mg "zip" = none
  c_LETTERS : ∃ t, mg "LETTERS" = some (.str "abcdefghijklmnopqrstuvwxyz" t)
  c_DIGITS : ∃ t, mg "DIGITS" = some (.str "0123456789" t)
  c_MOST_LETTERS : ∃ t, mg "MOST_LETTERS" = some (.int 6 t)
  c_MOST_DIGITS : ∃ t, mg "MOST_DIGITS" = some (.int 9 t)
  c_LAST_INDEX : ∃ t, mg "LAST_INDEX" = some (.int 5 t)
  c_LAST_HOUR : ∃ t, mg "LAST_HOUR" = some (.int 8 t)
theorem bn_is_number : ∀ (kV doc pm : Value) (an : Option Addr) (cdv ct : Value) (us : List Value), us.length = (["value", "least", "most"] : List Str).length → bindArgs (PySem.W.fnOf "is_number" "is_number" (defArgs s_is_number) (defBody s_is_number) (defScope s_is_number) .none kV doc pm an cdv ct) ⟨us, []⟩ = pure ((["value", "least", "most"] : List Str).zip us) := fun _ _ _ _ _ _ us hl => match us, hl with | [_, _, _], _ => rfl
theorem bn_is_name : ∀ (kV doc pm : Value) (an : Option Addr) (cdv ct : Value) (us : List Value), us.length = (["value"] : List Str).length → bindArgs (PySem.W.fnOf "is_name" "is_name" (defArgs s_is_name) (defBody s_is_name) (defScope s_is_name) .none kV doc pm an cdv ct) ⟨us, []⟩ = pure ((["value"] : List Str).zip us) := fun _ _ _ _ _ _ us hl => match us, hl with | [_], _ => rfl
theorem bn_is_cell : ∀ (kV doc pm : Value) (an : Option Addr) (cdv ct : Value) (us : List Value), us.length = (["value"] : List Str).length → bindArgs (PySem.W.fnOf "is_cell" "is_cell" (defArgs s_is_cell) (defBody s_is_cell) (defScope s_is_cell) .none kV doc pm an cdv ct) ⟨us, []⟩ = pure ((["value"] : List Str).zip us) := fun _ _ _ _ _ _ us hl => match us, hl with | [_], _ => rfl
theorem bn_is_place : ∀ (kV doc pm : Value) (an : Option Addr) (cdv ct : Value) (us : List Value), us.length = (["value"] : List Str).length → bindArgs (PySem.W.fnOf "is_place" "is_place" (defArgs s_is_place) (defBody s_is_place) (defScope s_is_place) .none kV doc pm an cdv ct) ⟨us, []⟩ = pure ((["value"] : List Str).zip us) := fun _ _ _ _ _ _ us hl => match us, hl with | [_], _ => rfl
theorem bn_number_in : ∀ (kV doc pm : Value) (an : Option Addr) (cdv ct : Value) (us : List Value), us.length = (["text"] : List Str).length → bindArgs (PySem.W.fnOf "number_in" "number_in" (defArgs s_number_in) (defBody s_number_in) (defScope s_number_in) .none kV doc pm an cdv ct) ⟨us, []⟩ = pure ((["text"] : List Str).zip us) := fun _ _ _ _ _ _ us hl => match us, hl with | [_], _ => rfl
theorem bn__law_bag : ∀ (kV doc pm : Value) (an : Option Addr) (cdv ct : Value) (us : List Value), us.length = (["_law_script"] : List Str).length → bindArgs (PySem.W.fnOf "_law_bag" "_law_bag" (defArgs s__law_bag) (defBody s__law_bag) (defScope s__law_bag) .none kV doc pm an cdv ct) ⟨us, []⟩ = pure ((["_law_script"] : List Str).zip us) := fun _ _ _ _ _ _ us hl => match us, hl with | [_], _ => rfl
theorem bn__law_draw : ∀ (kV doc pm : Value) (an : Option Addr) (cdv ct : Value) (us : List Value), us.length = (["_law_bag_here", "_law_many"] : List Str).length → bindArgs (PySem.W.fnOf "_law_draw" "_law_draw" (defArgs s__law_draw) (defBody s__law_draw) (defScope s__law_draw) .none kV doc pm an cdv ct) ⟨us, []⟩ = pure ((["_law_bag_here", "_law_many"] : List Str).zip us) := fun _ _ _ _ _ _ us hl => match us, hl with | [_, _], _ => rfl
theorem bn__law_pick : ∀ (kV doc pm : Value) (an : Option Addr) (cdv ct : Value) (us : List Value), us.length = (["_law_bag_here", "_law_some"] : List Str).length → bindArgs (PySem.W.fnOf "_law_pick" "_law_pick" (defArgs s__law_pick) (defBody s__law_pick) (defScope s__law_pick) .none kV doc pm an cdv ct) ⟨us, []⟩ = pure ((["_law_bag_here", "_law_some"] : List Str).zip us) := fun _ _ _ _ _ _ us hl => match us, hl with | [_, _], _ => rfl
theorem bn__law_same : ∀ (kV doc pm : Value) (an : Option Addr) (cdv ct : Value) (us : List Value), us.length = (["_law_found", "_law_due"] : List Str).length → bindArgs (PySem.W.fnOf "_law_same" "_law_same" (defArgs s__law_same) (defBody s__law_same) (defScope s__law_same) .none kV doc pm an cdv ct) ⟨us, []⟩ = pure ((["_law_found", "_law_due"] : List Str).zip us) := fun _ _ _ _ _ _ us hl => match us, hl with | [_, _], _ => rfl
theorem bn__law_odd : ∀ (kV doc pm : Value) (an : Option Addr) (cdv ct : Value) (us : List Value), us.length = (["_law_bag_here"] : List Str).length → bindArgs (PySem.W.fnOf "_law_odd" "_law_odd" (defArgs s__law_odd) (defBody s__law_odd) (defScope s__law_odd) .none kV doc pm an cdv ct) ⟨us, []⟩ = pure ((["_law_bag_here"] : List Str).zip us) := fun _ _ _ _ _ _ us hl => match us, hl with | [_], _ => rfl
theorem bn__law_count : ∀ (kV doc pm : Value) (an : Option Addr) (cdv ct : Value) (us : List Value), us.length = (["_law_bag_here"] : List Str).length → bindArgs (PySem.W.fnOf "_law_count" "_law_count" (defArgs s__law_count) (defBody s__law_count) (defScope s__law_count) .none kV doc pm an cdv ct) ⟨us, []⟩ = pure ((["_law_bag_here"] : List Str).zip us) := fun _ _ _ _ _ _ us hl => match us, hl with | [_], _ => rfl
theorem bn__law_word : ∀ (kV doc pm : Value) (an : Option Addr) (cdv ct : Value) (us : List Value), us.length = (["_law_bag_here"] : List Str).length → bindArgs (PySem.W.fnOf "_law_word" "_law_word" (defArgs s__law_word) (defBody s__law_word) (defScope s__law_word) .none kV doc pm an cdv ct) ⟨us, []⟩ = pure ((["_law_bag_here"] : List Str).zip us) := fun _ _ _ _ _ _ us hl => match us, hl with | [_], _ => rfl
theorem bn__law_figures : ∀ (kV doc pm : Value) (an : Option Addr) (cdv ct : Value) (us : List Value), us.length = (["_law_bag_here"] : List Str).length → bindArgs (PySem.W.fnOf "_law_figures" "_law_figures" (defArgs s__law_figures) (defBody s__law_figures) (defScope s__law_figures) .none kV doc pm an cdv ct) ⟨us, []⟩ = pure ((["_law_bag_here"] : List Str).zip us) := fun _ _ _ _ _ _ us hl => match us, hl with | [_], _ => rfl
theorem bn__law_is_count : ∀ (kV doc pm : Value) (an : Option Addr) (cdv ct : Value) (us : List Value), us.length = (["_law_thing", "_law_low", "_law_high"] : List Str).length → bindArgs (PySem.W.fnOf "_law_is_count" "_law_is_count" (defArgs s__law_is_count) (defBody s__law_is_count) (defScope s__law_is_count) .none kV doc pm an cdv ct) ⟨us, []⟩ = pure ((["_law_thing", "_law_low", "_law_high"] : List Str).zip us) := fun _ _ _ _ _ _ us hl => match us, hl with | [_, _, _], _ => rfl
theorem bn__law_is_tuple : ∀ (kV doc pm : Value) (an : Option Addr) (cdv ct : Value) (us : List Value), us.length = (["_law_thing", "_law_highs"] : List Str).length → bindArgs (PySem.W.fnOf "_law_is_tuple" "_law_is_tuple" (defArgs s__law_is_tuple) (defBody s__law_is_tuple) (defScope s__law_is_tuple) .none kV doc pm an cdv ct) ⟨us, []⟩ = pure ((["_law_thing", "_law_highs"] : List Str).zip us) := fun _ _ _ _ _ _ us hl => match us, hl with | [_, _], _ => rfl
theorem bn__law_is_word : ∀ (kV doc pm : Value) (an : Option Addr) (cdv ct : Value) (us : List Value), us.length = (["_law_thing"] : List Str).length → bindArgs (PySem.W.fnOf "_law_is_word" "_law_is_word" (defArgs s__law_is_word) (defBody s__law_is_word) (defScope s__law_is_word) .none kV doc pm an cdv ct) ⟨us, []⟩ = pure ((["_law_thing"] : List Str).zip us) := fun _ _ _ _ _ _ us hl => match us, hl with | [_], _ => rfl
theorem bn__law_number_of : ∀ (kV doc pm : Value) (an : Option Addr) (cdv ct : Value) (us : List Value), us.length = (["_law_thing"] : List Str).length → bindArgs (PySem.W.fnOf "_law_number_of" "_law_number_of" (defArgs s__law_number_of) (defBody s__law_number_of) (defScope s__law_number_of) .none kV doc pm an cdv ct) ⟨us, []⟩ = pure ((["_law_thing"] : List Str).zip us) := fun _ _ _ _ _ _ us hl => match us, hl with | [_], _ => rfl
theorem bn__law_judged_so : ∀ (kV doc pm : Value) (an : Option Addr) (cdv ct : Value) (us : List Value), us.length = (["_law_thing", "_law_low", "_law_high"] : List Str).length → bindArgs (PySem.W.fnOf "_law_judged_so" "_law_judged_so" (defArgs s__law_judged_so) (defBody s__law_judged_so) (defScope s__law_judged_so) .none kV doc pm an cdv ct) ⟨us, []⟩ = pure ((["_law_thing", "_law_low", "_law_high"] : List Str).zip us) := fun _ _ _ _ _ _ us hl => match us, hl with | [_, _, _], _ => rfl
theorem bn_law : ∀ (kV doc pm : Value) (an : Option Addr) (cdv ct : Value) (us : List Value), us.length = (["_law_script"] : List Str).length → bindArgs (PySem.W.fnOf "law" "law" (defArgs s_law) (defBody s_law) (defScope s_law) .none kV doc pm an cdv ct) ⟨us, []⟩ = pure ((["_law_script"] : List Str).zip us) := fun _ _ _ _ _ _ us hl => match us, hl with | [_], _ => rfl
namespace Kw0
def g {α : Type} : List α → List α
  | [x0, x1, x2] => [x2, x0, x1]
  | l => l
theorem rel {α β : Type} (R : α → β → Prop) (a : List α) (b : List β) (h : a.length = 3) (p : Paired R a b) : Paired R (g a) (g b) := by
  match a, h with
  | [x0, x1, x2], _ =>
    cases p with
    | cons p0 q0 =>
      cases q0 with
      | cons p1 q1 =>
        cases q1 with
        | cons p2 q2 =>
          cases q2
          exact (.cons p2 (.cons p0 (.cons p1 .nil)))
theorem relL (K : PySem.W.Frag) (w : Wd) (ds : List D) (vs : List V) (h : ds.length = 3) (r : RpL K w ds vs) : RpL K w (g ds) (g vs) := by
  match ds, h with
  | [x0, x1, x2], _ =>
    obtain ⟨v0, r0, rfl, h0, v1, r1, rfl, h1, v2, r2, rfl, h2, e⟩ := r
    obtain rfl : r2 = [] := e
    exact ⟨_, _, rfl, h2, ⟨_, _, rfl, h0, ⟨_, _, rfl, h1, rfl⟩⟩⟩
theorem bind : ∀ (kV doc pm : Value) (an : Option Addr) (cdv ct : Value) (ws : List Value), ws.length = 3 → bindArgs (PySem.W.fnOf "is_number" "is_number" (defArgs s_is_number) (defBody s_is_number) (defScope s_is_number) .none kV doc pm an cdv ct) ⟨[], (["least", "most", "value"] : List Str).zip ws⟩ = pure ((["value", "least", "most"] : List Str).zip (g ws)) := fun _ _ _ _ _ _ ws hl => match ws, hl with | [_, _, _], _ => rfl
end Kw0
namespace Kw1
def g {α : Type} : List α → List α
  | [x0] => [x0]
  | l => l
theorem rel {α β : Type} (R : α → β → Prop) (a : List α) (b : List β) (h : a.length = 1) (p : Paired R a b) : Paired R (g a) (g b) := by
  match a, h with
  | [x0], _ =>
    cases p with
    | cons p0 q0 =>
      cases q0
      exact (.cons p0 .nil)
theorem relL (K : PySem.W.Frag) (w : Wd) (ds : List D) (vs : List V) (h : ds.length = 1) (r : RpL K w ds vs) : RpL K w (g ds) (g vs) := by
  match ds, h with
  | [x0], _ =>
    obtain ⟨v0, r0, rfl, h0, e⟩ := r
    obtain rfl : r0 = [] := e
    exact ⟨_, _, rfl, h0, rfl⟩
theorem bind : ∀ (kV doc pm : Value) (an : Option Addr) (cdv ct : Value) (ws : List Value), ws.length = 1 → bindArgs (PySem.W.fnOf "number_in" "number_in" (defArgs s_number_in) (defBody s_number_in) (defScope s_number_in) .none kV doc pm an cdv ct) ⟨[], (["text"] : List Str).zip ws⟩ = pure ((["text"] : List Str).zip (g ws)) := fun _ _ _ _ _ _ ws hl => match ws, hl with | [_], _ => rfl
end Kw1
namespace Kw2
def g {α : Type} : List α → List α
  | [x0] => [x0]
  | l => l
theorem rel {α β : Type} (R : α → β → Prop) (a : List α) (b : List β) (h : a.length = 1) (p : Paired R a b) : Paired R (g a) (g b) := by
  match a, h with
  | [x0], _ =>
    cases p with
    | cons p0 q0 =>
      cases q0
      exact (.cons p0 .nil)
theorem relL (K : PySem.W.Frag) (w : Wd) (ds : List D) (vs : List V) (h : ds.length = 1) (r : RpL K w ds vs) : RpL K w (g ds) (g vs) := by
  match ds, h with
  | [x0], _ =>
    obtain ⟨v0, r0, rfl, h0, e⟩ := r
    obtain rfl : r0 = [] := e
    exact ⟨_, _, rfl, h0, rfl⟩
theorem bind : ∀ (kV doc pm : Value) (an : Option Addr) (cdv ct : Value) (ws : List Value), ws.length = 1 → bindArgs (PySem.W.fnOf "is_place" "is_place" (defArgs s_is_place) (defBody s_is_place) (defScope s_is_place) .none kV doc pm an cdv ct) ⟨[], (["value"] : List Str).zip ws⟩ = pure ((["value"] : List Str).zip (g ws)) := fun _ _ _ _ _ _ ws hl => match ws, hl with | [_], _ => rfl
end Kw2
namespace Kw3
def g {α : Type} : List α → List α
  | [x0] => [x0]
  | l => l
theorem rel {α β : Type} (R : α → β → Prop) (a : List α) (b : List β) (h : a.length = 1) (p : Paired R a b) : Paired R (g a) (g b) := by
  match a, h with
  | [x0], _ =>
    cases p with
    | cons p0 q0 =>
      cases q0
      exact (.cons p0 .nil)
theorem relL (K : PySem.W.Frag) (w : Wd) (ds : List D) (vs : List V) (h : ds.length = 1) (r : RpL K w ds vs) : RpL K w (g ds) (g vs) := by
  match ds, h with
  | [x0], _ =>
    obtain ⟨v0, r0, rfl, h0, e⟩ := r
    obtain rfl : r0 = [] := e
    exact ⟨_, _, rfl, h0, rfl⟩
theorem bind : ∀ (kV doc pm : Value) (an : Option Addr) (cdv ct : Value) (ws : List Value), ws.length = 1 → bindArgs (PySem.W.fnOf "is_cell" "is_cell" (defArgs s_is_cell) (defBody s_is_cell) (defScope s_is_cell) .none kV doc pm an cdv ct) ⟨[], (["value"] : List Str).zip ws⟩ = pure ((["value"] : List Str).zip (g ws)) := fun _ _ _ _ _ _ ws hl => match ws, hl with | [_], _ => rfl
end Kw3
namespace Kw4
def g {α : Type} : List α → List α
  | [x0] => [x0]
  | l => l
theorem rel {α β : Type} (R : α → β → Prop) (a : List α) (b : List β) (h : a.length = 1) (p : Paired R a b) : Paired R (g a) (g b) := by
  match a, h with
  | [x0], _ =>
    cases p with
    | cons p0 q0 =>
      cases q0
      exact (.cons p0 .nil)
theorem relL (K : PySem.W.Frag) (w : Wd) (ds : List D) (vs : List V) (h : ds.length = 1) (r : RpL K w ds vs) : RpL K w (g ds) (g vs) := by
  match ds, h with
  | [x0], _ =>
    obtain ⟨v0, r0, rfl, h0, e⟩ := r
    obtain rfl : r0 = [] := e
    exact ⟨_, _, rfl, h0, rfl⟩
theorem bind : ∀ (kV doc pm : Value) (an : Option Addr) (cdv ct : Value) (ws : List Value), ws.length = 1 → bindArgs (PySem.W.fnOf "is_name" "is_name" (defArgs s_is_name) (defBody s_is_name) (defScope s_is_name) .none kV doc pm an cdv ct) ⟨[], (["value"] : List Str).zip ws⟩ = pure ((["value"] : List Str).zip (g ws)) := fun _ _ _ _ _ _ ws hl => match ws, hl with | [_], _ => rfl
end Kw4
end K01
/-! What each def promises, over data. -/
namespace K01
open PySem L2 DL
def isNum : D → Int → Int → Bool
  | .int i, lo, hi => decide (lo ≤ i) && decide (i ≤ hi)
  | _, _, _ => false
def small (c : Nat) : Bool := subText ⟨#[c]⟩ "abcdefghijklmnopqrstuvwxyz"
def figure (c : Nat) : Bool := subText ⟨#[c]⟩ "0123456789"
def isName : D → Bool
  | .str z => decide (1 ≤ z.length) && decide (z.length ≤ 6) && z.cps.toList.all small
  | _ => false
def isTup (d : D) (his : List Int) : Bool := match d with
  | .tup xs => decide (xs.length = his.length) && (xs.zip his).all fun p => isNum p.1 0 p.2
  | _ => false
/-- the number of figures -/
def numOf (cs : List Nat) : Int := cs.foldl (fun (n : Int) (c : Nat) => n * 10 + ((c : Int) - 48)) 0
/-- a needless nought ahead -/
def lead (z : Str) : Bool := (match z.cps.toList with | c :: _ => eqB (.str ⟨#[c]⟩) (.str "0") | [] => false) && !eqB (.str z) (.str "0")
def numIn : D → D
  | .str z => if (decide (1 ≤ z.length) && decide (z.length ≤ 9) && z.cps.toList.all figure && !lead z) = true then .int (numOf z.cps.toList) else .non
  | _ => .non
def sp_is_number : DSp := fun ds M Q => ∃ v lo hi, ds = [v, .int lo, .int hi] ∧ gd 5 v = true ∧ Q (.bl (isNum v lo hi)) M
def sp_is_name : DSp := fun ds M Q => ∃ v, ds = [v] ∧ gd 5 v = true ∧ Q (.bl (isName v)) M
def sp_is_cell : DSp := fun ds M Q => ∃ v, ds = [v] ∧ gd 5 v = true ∧ Q (.bl (isTup v [5, 5])) M
def sp_is_place : DSp := fun ds M Q => ∃ v, ds = [v] ∧ gd 5 v = true ∧ Q (.bl (isTup v [8, 5, 5])) M
def sp_number_in : DSp := fun ds M Q => ∃ v, ds = [v] ∧ gd 5 v = true ∧ Q (numIn v) M
def sp__law_bag : DSp := spBag
def sp__law_draw : DSp := spDraw
def sp0__law_draw : DSp := spDraw0
def sp__law_pick : DSp := spPick
def sp__law_same : DSp := spSame 6
def sp__law_odd : DSp := fun ds M Q => ∃ b, ds = [.ref b] ∧ M b = some .bag ∧ ∀ x, gd 3 x = true → Q x M
def sp__law_count : DSp := fun ds M Q => ∃ b, ds = [.ref b] ∧ M b = some .bag ∧ ∀ i : Int, Q (.int i) M
def sp__law_word : DSp := fun ds M Q => ∃ b, ds = [.ref b] ∧ M b = some .bag ∧ ∀ z : Str, z.length ≤ 40 → PyData.strOk z = true → Q (.str z) M
def sp__law_figures : DSp := sp__law_word
def sp__law_is_count : DSp := sp_is_number
def sp__law_is_tuple : DSp := fun ds M Q => ∃ v his, ds = [v, .tup (his.map D.int)] ∧ gd 5 v = true ∧ his.length ≤ 5 ∧ Q (.bl (isTup v his)) M
def sp__law_is_word : DSp := sp_is_name
def sp__law_number_of : DSp := sp_number_in
def sp__law_judged_so : DSp := fun ds M Q => ∃ v lo hi, ds = [v, .int lo, .int hi] ∧ gd 4 v = true ∧ Q (.bl true) M
def sp_law : DSp := spLaw
end K01
/-! The readings of the defs. Printed by a program of mine. -/
namespace K01
open PySem L2 DL
def t_is_number : DS := (dRet (dAndV (dCB isiD (dCons (dVar 0) (dCons (dC (.ty "int")) dNil))) (dAndV (dNotV (dCB isiD (dCons (dVar 0) (dCons (dC (.ty "bool")) dNil)))) (dChain leD leD (dVar 1) (dVar 0) (dVar 2)))))
def t_is_name : DS := (dSeq (dIfS (dOr (dNot (dB (dCB isiD (dCons (dVar 0) (dCons (dC (.ty "str")) dNil))))) (dNot (dB (dChain leD leD (dC (.int 1)) (dCB lenD (dCons (dVar 0) dNil)) (dC (.int 6)))))) (dRet (dC (.bl false))) dNext) (dRet (dCB allD (dCons (dLc (dIt (dVar 0)) (gNm 1) dYes (dOp inD (dVar 1) (dC (.str "abcdefghijklmnopqrstuvwxyz"))) [1]) dNil))))
def t_is_cell : DS := (dSeq (dIfS (dOr (dNot (dB (dCB isiD (dCons (dVar 0) (dCons (dC (.ty "tuple")) dNil))))) (dB (dOp neD (dCB lenD (dCons (dVar 0) dNil)) (dC (.int 2))))) (dRet (dC (.bl false))) dNext) (dRet (dAndV (dCall sp_is_number (dCons (dOp ixD (dVar 0) (dC (.int 0))) (dCons (dC (.int 0)) (dCons (dC (.int 5)) dNil)))) (dCall sp_is_number (dCons (dOp ixD (dVar 0) (dC (.int 1))) (dCons (dC (.int 0)) (dCons (dC (.int 5)) dNil)))))))
def t_is_place : DS := (dSeq (dIfS (dOr (dNot (dB (dCB isiD (dCons (dVar 0) (dCons (dC (.ty "tuple")) dNil))))) (dB (dOp neD (dCB lenD (dCons (dVar 0) dNil)) (dC (.int 3))))) (dRet (dC (.bl false))) dNext) (dRet (dAndV (dCall sp_is_number (dCons (dOp ixD (dVar 0) (dC (.int 0))) (dCons (dC (.int 0)) (dCons (dC (.int 8)) dNil)))) (dCall sp_is_cell (dCons (dSl (dVar 0) (dPart (dC (.int 1))) dNoPart) dNil)))))
def t_number_in : DS := (dSeq (dIfS (dOr (dNot (dB (dCB isiD (dCons (dVar 0) (dCons (dC (.ty "str")) dNil))))) (dNot (dB (dChain leD leD (dC (.int 1)) (dCB lenD (dCons (dVar 0) dNil)) (dC (.int 9)))))) (dRet (dC .non)) dNext) (dSeq (dIfS (dOr (dNot (dB (dCB allD (dCons (dLc (dIt (dVar 0)) (gNm 1) dYes (dOp inD (dVar 1) (dC (.str "0123456789"))) [1]) dNil)))) (dAnd (dB (dOp eqD (dOp ixD (dVar 0) (dC (.int 0))) (dC (.str "0")))) (dB (dOp neD (dVar 0) (dC (.str "0")))))) (dRet (dC .non)) dNext) (dRet (dCB intD (dCons (dVar 0) dNil)))))
def t__law_bag_b1 : DS := (dAsg (dOp modD (dCB intD (dCons (dOp addD (dOp mulD (dVar 3) (dC (.int 6947))) (dVar 2)) dNil)) (dC (.int 2147483423))) (gNm 3))
def t__law_bag : DS := (dSeq (dAsg (dLc (dIt (dSl (dVar 0) dNoPart (dPart (dC (.int 63))))) (gNm 2) dYes (dCB intD (dCons (dVar 2) dNil)) [2]) (gNm 1)) (dSeq (dAsg (dOp addD (dC (.int 120310)) (dOp mulD (dC (.int 61)) (dCB lenD (dCons (dVar 1) dNil)))) (gNm 3)) (dSeq (dFor (dIt (dVar 1)) (gNm 2) t__law_bag_b1) (dRet (dBag (dCons (dVar 1) (dCons (dC (.int 0)) (dCons (dC (.int 0)) (dCons (dVar 3) dNil)))))))))
def t__law_draw : DS := (dSeq (dIfS (dB (dOp ltD (dOp ixD (dVar 0) (dC (.int 2))) (dC (.int 2)))) (dSeq (dAsg (dOp addD (dOp ixD (dVar 0) (dC (.int 1))) (dC (.int 1))) (gIx (dVar 0) (dC (.int 1)))) (dSeq (dAsg (dOp addD (dOp ixD (dVar 0) (dC (.int 3))) (dOp mulD (dOp ixD (dVar 0) (dC (.int 1))) (dC (.int 9241)))) (gNm 2)) (dSeq (dIfS (dB (dOp leD (dOp ixD (dVar 0) (dC (.int 1))) (dCB lenD (dCons (dOp ixD (dVar 0) (dC (.int 0))) dNil)))) (dAsg (dOp ixD (dOp ixD (dVar 0) (dC (.int 0))) (dOp subD (dOp ixD (dVar 0) (dC (.int 1))) (dC (.int 1)))) (gNm 2)) dNext) (dSeq (dIfS (dOr (dB (dOp gtD (dOp ixD (dVar 0) (dC (.int 1))) (dCB lenD (dCons (dOp ixD (dVar 0) (dC (.int 0))) dNil)))) (dB (dOp ltD (dVar 2) (dOp powD (dC (.int 10)) (dC (.int 18)))))) (dSeq (dAsg (dOp modD (dCB intD (dCons (dOp addD (dOp addD (dOp mulD (dVar 2) (dC (.int 43051))) (dOp mulD (dOp ixD (dVar 0) (dC (.int 1))) (dC (.int 39119)))) (dOp ixD (dVar 0) (dC (.int 3)))) dNil)) (dC (.int 2147483587))) (gNm 3)) (dSeq (dAsg (dOp modD (dCB intD (dCons (dOp addD (dOp mulD (dVar 3) (dVar 3)) (dOp mulD (dOp ixD (dVar 0) (dC (.int 1))) (dC (.int 60607)))) dNil)) (dC (.int 998244353))) (gNm 4)) (dRet (dOp modD (dOp fdivD (dOp modD (dCB intD (dCons (dOp addD (dOp mulD (dVar 4) (dC (.int 46819))) (dVar 3)) dNil)) (dC (.int 2147483549))) (dC (.int 23))) (dVar 1))))) dNext) (dAsg (dVar 2) (gIx (dVar 0) (dC (.int 2)))))))) dNext) (dSeq (dAsg (dOp modD (dCB intD (dCons (dOp ixD (dVar 0) (dC (.int 2))) dNil)) (dVar 1)) (gNm 5)) (dSeq (dAsg (dOp fdivD (dCB intD (dCons (dOp ixD (dVar 0) (dC (.int 2))) dNil)) (dVar 1)) (gIx (dVar 0) (dC (.int 2)))) (dRet (dVar 5)))))
def t__law_pick : DS := (dRet (dOp ixD (dVar 1) (dCall sp__law_draw (dCons (dVar 0) (dCons (dCB lenD (dCons (dVar 1) dNil)) dNil)))))
def t__law_same (sp__law_same : DSp) : DS := (dSeq (dIfS (dOr (dB (dOp isND (dVar 1) (dC .non))) (dB (dOp isND (dVar 0) (dC .non)))) (dRet (dAndV (dOp isND (dVar 1) (dC .non)) (dOp isND (dVar 0) (dC .non)))) dNext) (dSeq (dIfS (dOr (dB (dCB isiD (dCons (dVar 1) (dCons (dTup (dCons (dC (.ty "list")) (dCons (dC (.ty "tuple")) dNil))) dNil)))) (dB (dCB isiD (dCons (dVar 0) (dCons (dTup (dCons (dC (.ty "list")) (dCons (dC (.ty "tuple")) dNil))) dNil))))) (dSeq (dIfS (dOr (dB (dOp neD (dCB isiD (dCons (dVar 1) (dCons (dC (.ty "list")) dNil))) (dCB isiD (dCons (dVar 0) (dCons (dC (.ty "list")) dNil))))) (dB (dOp neD (dCB isiD (dCons (dVar 1) (dCons (dC (.ty "tuple")) dNil))) (dCB isiD (dCons (dVar 0) (dCons (dC (.ty "tuple")) dNil)))))) (dRet (dC (.bl false))) dNext) (dRet (dAndV (dOp eqD (dCB lenD (dCons (dVar 0) dNil)) (dCB lenD (dCons (dVar 1) dNil))) (dCB allD (dCons (dLc (dZip (dCons (dVar 0) (dCons (dVar 1) dNil))) (gTp (gsCons (gNm 2) (gsCons (gNm 3) gsNil)) 2) dYes (dCall sp__law_same (dCons (dVar 2) (dCons (dVar 3) dNil))) [2, 3]) dNil))))) dNext) (dSeq (dIfS (dOr (dB (dOp neD (dCB isiD (dCons (dVar 1) (dCons (dC (.ty "bool")) dNil))) (dCB isiD (dCons (dVar 0) (dCons (dC (.ty "bool")) dNil))))) (dB (dOp neD (dCB isiD (dCons (dVar 1) (dCons (dC (.ty "str")) dNil))) (dCB isiD (dCons (dVar 0) (dCons (dC (.ty "str")) dNil)))))) (dRet (dC (.bl false))) dNext) (dRet (dAndV (dOp eqD (dCB isiD (dCons (dVar 1) (dCons (dC (.ty "int")) dNil))) (dCB isiD (dCons (dVar 0) (dCons (dC (.ty "int")) dNil)))) (dOp eqD (dVar 0) (dVar 1)))))))
def t__law_odd : DS := (dRet (dCall sp__law_pick (dCons (dVar 0) (dCons (dLst (dCons (dC .non) (dCons (dC (.bl true)) (dCons (dC (.bl false)) (dCons (dTup dNil) (dCons (dLst dNil) (dCons (dC (.str "")) (dCons (dC (.str "3")) (dCons (dTup (dCons (dC (.bl true)) (dCons (dC (.int 0)) dNil))) (dCons (dLst (dCons (dC (.int 0)) (dCons (dC (.int 0)) dNil))) (dCons (dTup (dCons (dC (.int 0)) (dCons (dC (.int 0)) (dCons (dC (.bl false)) dNil)))) (dCons (dTup (dCons (dC (.str "0")) (dCons (dC (.int 0)) dNil))) (dCons (dTup (dCons (dTup (dCons (dC (.int 0)) (dCons (dC (.int 0)) dNil))) dNil)) (dCons (dTup (dCons (dC (.int 0)) (dCons (dC .non) dNil))) dNil)))))))))))))) dNil))))
def t__law_count : DS := (dRet (dCall sp__law_pick (dCons (dVar 0) (dCons (dLst (dCons (dNeg (dC (.int 1))) (dCons (dC (.int 0)) (dCons (dC (.int 0)) (dCons (dC (.int 1)) (dCons (dC (.int 4)) (dCons (dC (.int 5)) (dCons (dC (.int 5)) (dCons (dC (.int 6)) (dCons (dC (.int 7)) (dCons (dC (.int 8)) (dCons (dC (.int 8)) (dCons (dC (.int 9)) (dCons (dC (.int 10)) (dCons (dC (.int 99)) (dCons (dC (.int 999999990)) (dCons (dCall sp__law_draw (dCons (dVar 0) (dCons (dC (.int 9)) dNil))) dNil))))))))))))))))) dNil))))
def t__law_word : DS := (dSeq (dAsg (dC (.str "abcdefghijklmnopqrstuvwxyz")) (gNm 1)) (dSeq (dAsg (dM1 joinD (dC (.str "")) (dLc (dRng1 (dCons (dCall sp__law_draw (dCons (dVar 0) (dCons (dC (.int 8)) dNil))) dNil)) (gNm 3) dYes (dCall sp__law_pick (dCons (dVar 0) (dCons (dVar 1) dNil))) [3])) (gNm 2)) (dSeq (dAsg (dCall sp__law_draw (dCons (dVar 0) (dCons (dOp addD (dCB lenD (dCons (dVar 2) dNil)) (dC (.int 1))) dNil))) (gNm 4)) (dRet (dOp addD (dOp addD (dSl (dVar 2) dNoPart (dPart (dVar 4))) (dCall sp__law_pick (dCons (dVar 0) (dCons (dLst (dCons (dC (.str "")) (dCons (dC (.str "")) (dCons (dC (.str "A")) (dCons (dC (.str "0")) (dCons (dC (.str " ")) (dCons (dC (.str "-")) (dCons (dC (.str "_")) (dCons (dC (.str "Z")) (dCons (dC (.str ".")) (dCons (dC (.str "\n")) dNil))))))))))) dNil)))) (dSl (dVar 2) (dPart (dVar 4)) dNoPart))))))
def t__law_figures : DS := (dSeq (dAsg (dM1 joinD (dC (.str "")) (dLc (dRng1 (dCons (dCall sp__law_draw (dCons (dVar 0) (dCons (dC (.int 11)) dNil))) dNil)) (gNm 2) dYes (dCall sp__law_pick (dCons (dVar 0) (dCons (dC (.str "0123456789")) dNil))) [2])) (gNm 1)) (dSeq (dAsg (dCall sp__law_draw (dCons (dVar 0) (dCons (dC (.int 8)) dNil))) (gNm 3)) (dSeq (dIfS (dB (dOp eqD (dVar 3) (dC (.int 0)))) (dSeq (dAsg (dCall sp__law_draw (dCons (dVar 0) (dCons (dOp addD (dCB lenD (dCons (dVar 1) dNil)) (dC (.int 1))) dNil))) (gNm 4)) (dRet (dOp addD (dOp addD (dSl (dVar 1) dNoPart (dPart (dVar 4))) (dCall sp__law_pick (dCons (dVar 0) (dCons (dLst (dCons (dC (.str "-")) (dCons (dC (.str "+")) (dCons (dC (.str " ")) (dCons (dC (.str "_")) (dCons (dC (.str "a")) (dCons (dC (.str ".")) (dCons (dC (.str "\n")) (dCons (dC (.str "00")) dNil))))))))) dNil)))) (dSl (dVar 1) (dPart (dVar 4)) dNoPart)))) dNext) (dRet (dIf (dB (dOp ltD (dVar 3) (dC (.int 3)))) (dCB strD (dCons (dCall sp__law_draw (dCons (dVar 0) (dCons (dOp powD (dC (.int 10)) (dC (.int 9))) dNil))) dNil)) (dVar 1))))))
def t__law_is_count : DS := (dRet (dAndV (dCB isiD (dCons (dVar 0) (dCons (dC (.ty "int")) dNil))) (dAndV (dNotV (dCB isiD (dCons (dVar 0) (dCons (dC (.ty "bool")) dNil)))) (dAndV (dOp leD (dVar 1) (dVar 0)) (dOp leD (dVar 0) (dVar 2))))))
def t__law_is_tuple : DS := (dSeq (dIfS (dOr (dNot (dB (dCB isiD (dCons (dVar 0) (dCons (dC (.ty "tuple")) dNil))))) (dB (dOp neD (dCB lenD (dCons (dVar 0) dNil)) (dCB lenD (dCons (dVar 1) dNil))))) (dRet (dC (.bl false))) dNext) (dRet (dCB allD (dCons (dLc (dZip (dCons (dVar 0) (dCons (dVar 1) dNil))) (gTp (gsCons (gNm 2) (gsCons (gNm 3) gsNil)) 2) dYes (dCall sp__law_is_count (dCons (dVar 2) (dCons (dC (.int 0)) (dCons (dVar 3) dNil)))) [2, 3]) dNil))))
def t__law_is_word : DS := (dSeq (dIfS (dOr (dNot (dB (dCB isiD (dCons (dVar 0) (dCons (dC (.ty "str")) dNil))))) (dOr (dB (dOp ltD (dCB lenD (dCons (dVar 0) dNil)) (dC (.int 1)))) (dB (dOp gtD (dCB lenD (dCons (dVar 0) dNil)) (dC (.int 6)))))) (dRet (dC (.bl false))) dNext) (dRet (dCB allD (dCons (dLc (dIt (dVar 0)) (gNm 1) dYes (dOp inD (dVar 1) (dC (.str "abcdefghijklmnopqrstuvwxyz"))) [1]) dNil))))
def t__law_number_of_b1 : DS := (dSeq (dIfS (dB (dOp ninD (dVar 2) (dC (.str "0123456789")))) (dRet (dC .non)) dNext) (dAsg (dOp addD (dOp mulD (dVar 1) (dC (.int 10))) (dM1 sindexD (dC (.str "0123456789")) (dVar 2))) (gNm 1)))
def t__law_number_of : DS := (dSeq (dIfS (dOr (dNot (dB (dCB isiD (dCons (dVar 0) (dCons (dC (.ty "str")) dNil))))) (dOr (dB (dOp ltD (dCB lenD (dCons (dVar 0) dNil)) (dC (.int 1)))) (dOr (dB (dOp gtD (dCB lenD (dCons (dVar 0) dNil)) (dC (.int 9)))) (dAnd (dB (dOp eqD (dOp ixD (dVar 0) (dC (.int 0))) (dC (.str "0")))) (dB (dOp neD (dVar 0) (dC (.str "0")))))))) (dRet (dC .non)) dNext) (dSeq (dAsg (dC (.int 0)) (gNm 1)) (dSeq (dFor (dIt (dVar 0)) (gNm 2) t__law_number_of_b1) (dRet (dVar 1)))))
def t__law_judged_so : DS := (dSeq (dAsg (dLst (dCons (dCall sp_is_name (dCons (dVar 0) dNil)) (dCons (dCall sp_is_cell (dCons (dVar 0) dNil)) (dCons (dCall sp_is_place (dCons (dVar 0) dNil)) (dCons (dCall sp_is_number (dCons (dVar 0) (dCons (dVar 1) (dCons (dVar 2) dNil)))) (dCons (dCall sp_number_in (dCons (dVar 0) dNil)) dNil)))))) (gNm 3)) (dSeq (dAsg (dLst (dCons (dCall sp__law_is_word (dCons (dVar 0) dNil)) (dCons (dCall sp__law_is_tuple (dCons (dVar 0) (dCons (dTup (dCons (dC (.int 5)) (dCons (dC (.int 5)) dNil))) dNil))) (dCons (dCall sp__law_is_tuple (dCons (dVar 0) (dCons (dTup (dCons (dC (.int 8)) (dCons (dC (.int 5)) (dCons (dC (.int 5)) dNil)))) dNil))) dNil)))) (gNm 4)) (dRet (dCall sp__law_same (dCons (dVar 3) (dCons (dOp addD (dVar 4) (dLst (dCons (dCall sp__law_is_count (dCons (dVar 0) (dCons (dVar 1) (dCons (dVar 2) dNil)))) (dCons (dCall sp__law_number_of (dCons (dVar 0) dNil)) dNil)))) dNil))))))
def t_law_b1 : DS := (dAsg (dOp addD (dVar 5) (dLst (dCons (dCB tupD (dCons (dSl (dVar 10) dNoPart (dPart (dC (.int 2)))) dNil)) (dCons (dCB tupD (dCons (dSl (dVar 10) dNoPart (dPart (dC (.int 3)))) dNil)) (dCons (dCB tupD (dCons (dVar 10) dNil)) (dCons (dSl (dVar 10) dNoPart (dPart (dC (.int 2)))) (dCons (dSl (dVar 10) dNoPart (dPart (dC (.int 3)))) (dCons (dCB tupD (dCons (dSl (dVar 10) (dPart (dC (.int 1))) (dPart (dC (.int 3)))) dNil)) dNil)))))))) (gNm 5))
def t_law_b2 : DS := (dIfS (dNot (dB (dCall sp__law_judged_so (dCons (dVar 11) (dCons (dVar 3) (dCons (dVar 4) dNil)))))) (dRet (dC (.bl false))) dNext)
def t_law_b3 : DS := (dSeq (dAsg (dCall sp__law_count (dCons (dVar 1) dNil)) (gNm 3)) (dSeq (dAsg (dOp subD (dOp addD (dVar 3) (dCall sp__law_draw (dCons (dVar 1) (dCons (dC (.int 4)) dNil)))) (dC (.int 1))) (gNm 4)) (dSeq (dAsg (dLst (dCons (dCall sp__law_word (dCons (dVar 1) dNil)) (dCons (dCall sp__law_figures (dCons (dVar 1) dNil)) (dCons (dCall sp__law_odd (dCons (dVar 1) dNil)) (dCons (dOp subD (dVar 3) (dC (.int 1))) (dCons (dVar 3) (dCons (dVar 4) (dCons (dOp addD (dVar 4) (dC (.int 1))) dNil)))))))) (gNm 5)) (dSeq (dAsg (dLc (dRng1 (dCons (dC (.int 4)) dNil)) (gNm 7) dYes (dCall sp__law_count (dCons (dVar 1) dNil)) [7]) (gNm 6)) (dSeq (dAsg (dCall sp__law_draw (dCons (dVar 1) (dCons (dC (.int 4)) dNil))) (gNm 8)) (dSeq (dAsg (dOp addD (dOp addD (dSl (dVar 6) dNoPart (dPart (dVar 8))) (dLst (dCons (dCall sp__law_odd (dCons (dVar 1) dNil)) dNil))) (dSl (dVar 6) (dPart (dOp addD (dVar 8) (dC (.int 1)))) dNoPart)) (gNm 9)) (dSeq (dFor (dIt (dLst (dCons (dVar 6) (dCons (dOp addD (dLst (dCons (dCall sp__law_draw (dCons (dVar 1) (dCons (dC (.int 9)) dNil))) dNil)) (dLc (dRng1 (dCons (dC (.int 3)) dNil)) (gNm 7) dYes (dCall sp__law_draw (dCons (dVar 1) (dCons (dC (.int 6)) dNil))) [7])) (dCons (dVar 9) dNil))))) (gNm 10) t_law_b1) (dSeq (dFor (dIt (dVar 5)) (gNm 11) t_law_b2) (dSeq (dAsg (dCall sp__law_draw (dCons (dVar 1) (dCons (dOp powD (dC (.int 10)) (dC (.int 9))) dNil))) (gNm 12)) (dSeq (dIfS (dNot (dB (dCall sp__law_same (dCons (dLst (dCons (dCall sp_number_in (dCons (dCB strD (dCons (dVar 12) dNil)) dNil)) (dCons (dCall sp_number_in (dCons (dOp addD (dC (.str "0")) (dCB strD (dCons (dVar 12) dNil))) dNil)) (dCons (dCall sp_number_in (dCons (dCB strD (dCons (dOp addD (dOp powD (dC (.int 10)) (dC (.int 9))) (dVar 12)) dNil)) dNil)) dNil)))) (dCons (dLst (dCons (dVar 12) (dCons (dC .non) (dCons (dC .non) dNil)))) dNil))))) (dRet (dC (.bl false))) dNext) (dIfS (dB (dOp neD (dCallK0 sp_is_number 3 Kw0.g (dCons (dVar 3) (dCons (dVar 4) (dCons (dVar 12) dNil)))) (dCall sp__law_is_count (dCons (dVar 12) (dCons (dVar 3) (dCons (dVar 4) dNil)))))) (dRet (dC (.bl false))) dNext)))))))))))
def t_law : DS := (dSeq (dAsg (dCall sp__law_bag (dCons (dVar 0) dNil)) (gNm 1)) (dSeq (dFor (dRng1 (dCons (dC (.int 5)) dNil)) (gNm 2) t_law_b3) (dSeq (dAsg (dLst (dCons (dCallK0 sp_is_name 1 Kw4.g (dCons (dC (.str "a")) dNil)) (dCons (dCallK0 sp_is_cell 1 Kw3.g (dCons (dTup (dCons (dC (.int 0)) (dCons (dC (.int 5)) dNil))) dNil)) (dCons (dCallK0 sp_is_place 1 Kw2.g (dCons (dTup (dCons (dC (.int 8)) (dCons (dC (.int 5)) (dCons (dC (.int 5)) dNil)))) dNil)) (dCons (dCallK0 sp_number_in 1 Kw1.g (dCons (dC (.str "0")) dNil)) (dCons (dCall sp_number_in (dCons (dC (.str "999999999")) dNil)) dNil)))))) (gNm 13)) (dRet (dAndV (dCall sp__law_same (dCons (dVar 13) (dCons (dLst (dCons (dC (.bl true)) (dCons (dC (.bl true)) (dCons (dC (.bl true)) (dCons (dC (.int 0)) (dCons (dC (.int 999999999)) dNil)))))) dNil))) (dAndV (dOp isND (dCall sp_number_in (dCons (dC (.str "-0")) dNil)) (dC .non)) (dOp isND (dCall sp_number_in (dCons (dC (.str "00")) dNil)) (dC .non))))))))
end K01
namespace K01
open PySem L2 DL
theorem pure_is_number : ∀ ds M Q, sp_is_number ds M Q → ds.length = (["value", "least", "most"] : List Str).length ∧ t_is_number { nx := fun _ M' => Q .non M', rt := Q } (startD ["value", "least", "most"] ds) M := by
  rintro ds M Q ⟨v, lo, hi, rfl, hv, q⟩
  refine ⟨rfl, ?_⟩
  have hty := gd_ty hv
  cases v <;> first | (cases (show false = true from hty); done) | skip
  all_goals simp [t_is_number, inst, tyN, isA, tyNames]
  all_goals simp [isNum] at q
  all_goals first | exact q | skip
  case int i =>
    split
    · rename_i h; simpa [h] using q
    · rename_i h; simpa [h] using q
theorem all_map {α : Type} (l : List α) (p : α → Bool) : (l.map p).all id = l.all p := by simp
theorem pure_is_name : ∀ ds M Q, sp_is_name ds M Q → ds.length = (["value"] : List Str).length ∧ t_is_name { nx := fun _ M' => Q .non M', rt := Q } (startD ["value", "letter"] ds) M := by
  rintro ds M Q ⟨v, rfl, hv, q⟩
  refine ⟨rfl, ?_⟩
  have hty := gd_ty hv
  cases v <;> first | (cases (show false = true from hty); done) | skip
  all_goals simp [t_is_name, inst, tyN, isA, tyNames]
  all_goals first | exact q | skip
  case str z =>
    obtain ⟨h1, h2⟩ := gd_str hv
    refine ⟨by omega, ?_⟩
    simp only [isName] at q
    split
    · split
      · rename_i h3 h4
        rw [decide_eq_false (show ¬ z.length ≤ 6 by omega)] at q
        simpa using q
      · rename_i h3 h4
        rw [decide_eq_true (show 1 ≤ z.length by omega), decide_eq_true (show z.length ≤ 6 by omega)] at q
        refine compi_of (f := fun ch => .bl (small ch)) _ _ _ (fun ch _ Q h => ?_) (by have : z.cps.size = z.length := rfl; simp; omega) ?_
        · simpa [wipeD, small] using h
        · refine ⟨z.cps.toList.map small, by simp, ?_⟩
          simpa using q
    · rename_i h3
      rw [decide_eq_false (show ¬ 1 ≤ z.length by omega)] at q
      simpa using q
theorem pure_is_cell : ∀ ds M Q, sp_is_cell ds M Q → ds.length = (["value"] : List Str).length ∧ t_is_cell { nx := fun _ M' => Q .non M', rt := Q } (startD ["value"] ds) M := by
  rintro ds M Q ⟨v, rfl, hv, q⟩
  refine ⟨rfl, ?_⟩
  have hty := gd_ty hv
  cases v <;> first | (cases (show false = true from hty); done) | skip
  all_goals simp [t_is_cell, inst, tyN, isA, tyNames]
  all_goals first | exact q | skip
  case tup xs =>
    obtain ⟨h1, h2⟩ := gd_tup hv
    match xs, h2, q with
    | [], h2, q => simpa [isTup, eqB, eqOk, py, PyData.eqv, pyN] using q
    | [a], h2, q => simpa [isTup, eqB, eqOk, py, PyData.eqv, pyN] using q
    | a :: b :: c :: r, h2, q =>
      have : ¬ (r.length : Int) + 1 + 1 + 1 = 2 := by omega
      simpa [isTup, eqB, eqOk, py, PyData.eqv, pyN, this] using q
    | [a, b], h2, q =>
      simp [eqB, eqOk, py, PyData.eqv, pyN, atI, ixN]
      refine ⟨a, 0, 5, rfl, gd_mono (h2 a (by simp)), ?_⟩
      simp [isTup] at q
      cases h : isNum a 0 5 with
      | false => simpa [h] using q
      | true => simp only [h, Bool.true_and] at q; simp; exact ⟨b, 0, 5, rfl, gd_mono (h2 b (by simp)), q⟩
theorem pure_is_place : ∀ ds M Q, sp_is_place ds M Q → ds.length = (["value"] : List Str).length ∧ t_is_place { nx := fun _ M' => Q .non M', rt := Q } (startD ["value"] ds) M := by
  rintro ds M Q ⟨v, rfl, hv, q⟩
  refine ⟨rfl, ?_⟩
  have hty := gd_ty hv
  cases v <;> first | (cases (show false = true from hty); done) | skip
  all_goals simp [t_is_place, inst, tyN, isA, tyNames]
  all_goals first | exact q | skip
  case tup xs =>
    obtain ⟨h1, h2⟩ := gd_tup hv
    match xs, h2, q with
    | [], h2, q => simpa [isTup, eqB, eqOk, py, PyData.eqv, pyN] using q
    | [a], h2, q => simpa [isTup, eqB, eqOk, py, PyData.eqv, pyN] using q
    | [a, b], h2, q => simpa [isTup, eqB, eqOk, py, PyData.eqv, pyN] using q
    | a :: b :: c :: d :: r, h2, q =>
      have : ¬ (r.length : Int) + 1 + 1 + 1 + 1 = 3 := by omega
      simpa [isTup, eqB, eqOk, py, PyData.eqv, pyN, this] using q
    | [a, b, c], h2, q =>
      simp [eqB, eqOk, py, PyData.eqv, pyN, atI, ixN]
      refine ⟨a, 0, 8, rfl, gd_mono (h2 a (by simp)), ?_⟩
      simp [isTup] at q
      cases h : isNum a 0 8 with
      | false => simpa [h] using q
      | true =>
        simp only [h, Bool.true_and] at q
        simp
        refine ⟨_, rfl, ?_, ?_⟩
        · simp [cut, HT.sIx, gd]
          exact ⟨h2 b (by simp), h2 c (by simp)⟩
        · simpa [cut, HT.sIx, isTup] using q
theorem fig_iff (c : Nat) : figure c = true ↔ 48 ≤ c ∧ c ≤ 57 := by
  unfold figure subText
  rw [PySem.StrLaws.found_one, decide_eq_true_eq]
  have : ("0123456789" : Str).cps.toList = [48, 49, 50, 51, 52, 53, 54, 55, 56, 57] := by decide +kernel
  rw [this]
  simp only [List.mem_cons, List.not_mem_nil, or_false]
  omega
theorem num_text {z : Str} (h1 : 1 ≤ z.length) (h9 : z.length ≤ 9) (hf : z.cps.toList.all figure = true) : PySem.intText? z = some (numOf z.cps.toList) := by
  have ad : NumText.AllDigits z.cps.toList := fun c hc => (fig_iff c).mp (List.all_eq_true.mp hf c hc)
  have hne : z.cps.toList ≠ [] := by
    intro e
    have : z.cps.toList.length = z.length := by simp [Str.length]
    rw [e] at this; simp at this; omega
  have e := PySem.intText_digits ad hne (by omega)
  rw [e]
  congr 1
  exact (TL.fold_digits z.cps.toList 0 ad).symm
theorem pure_number_in : ∀ ds M Q, sp_number_in ds M Q → ds.length = (["text"] : List Str).length ∧ t_number_in { nx := fun _ M' => Q .non M', rt := Q } (startD ["text", "digit"] ds) M := by
  rintro ds M Q ⟨v, rfl, hv, q⟩
  refine ⟨rfl, ?_⟩
  have hty := gd_ty hv
  cases v <;> first | (cases (show false = true from hty); done) | skip
  all_goals simp [t_number_in, inst, tyN, isA, tyNames]
  all_goals first | exact q | skip
  case str z =>
    obtain ⟨h1, h2⟩ := gd_str hv
    refine ⟨by omega, ?_⟩
    simp only [numIn] at q
    split
    · split
      · rename_i h3 h4
        rw [decide_eq_false (show ¬ z.length ≤ 9 by omega)] at q
        simpa using q
      · rename_i h3 h4
        rw [decide_eq_true (show 1 ≤ z.length by omega), decide_eq_true (show z.length ≤ 9 by omega)] at q
        refine compi_of (f := fun ch => .bl (figure ch)) _ _ _ (fun ch _ Q h => ?_) (by have : z.cps.size = z.length := rfl; simp; omega) ?_
        · simpa [wipeD, figure] using h
        · refine ⟨z.cps.toList.map figure, by simp, ?_⟩
          have hsz : z.cps.toList.length = z.length := by simp [Str.length]
          cases hf : z.cps.toList.all figure with
          | false =>
            rw [hf] at q
            have : false ∈ List.map figure z.cps.toList := by
              obtain ⟨ch, h5, h6⟩ := List.all_eq_false.mp hf
              exact List.mem_map.mpr ⟨ch, h5, by simpa using h6⟩
            rw [if_pos this]
            simpa using q
          | true =>
            rw [hf] at q
            have : ¬ false ∈ List.map figure z.cps.toList := by
              intro h
              obtain ⟨ch, h5, h6⟩ := List.mem_map.mp h
              rw [List.all_eq_true.mp hf ch h5] at h6; cases h6
            rw [if_neg this]
            have hn := num_text (by omega) (by omega) hf
            refine ⟨by omega, ?_⟩
            cases hc : z.cps.toList with
            | nil => rw [hc] at hsz; simp at hsz; omega
            | cons ch r =>
              have ha : atI (ch :: r) 0 = some ch := by
                unfold atI ixN
                rw [if_pos (by decide), if_pos (by simp)]; rfl
              simp only [ha]
              rw [hc] at hn q
              have hl : lead z = (eqB (.str ⟨#[ch]⟩) (.str "0") && !eqB (.str z) (.str "0")) := by unfold lead; rw [hc]
              rw [hl] at q
              simp only [eqB_str] at q
              by_cases h7 : (⟨#[ch]⟩ : Str) = "0"
              · by_cases h8 : z = "0"
                · rw [if_pos h7, if_pos h8]
                  exact ⟨by omega, _, hn, by simpa [h7, h8] using q⟩
                · rw [if_pos h7, if_neg h8]
                  simpa [h7, h8] using q
              · rw [if_neg h7]
                exact ⟨by omega, _, hn, by simpa [h7] using q⟩
    · rename_i h3
      rw [decide_eq_false (show ¬ 1 ≤ z.length by omega)] at q
      simpa using q
theorem cut_all {α : Type} {xs : List α} {n : Nat} (h : xs.length ≤ n) : cut xs none (some (n : Int)) = xs := by
  unfold cut
  rw [HT.sIx_nat, HT.sIx_none, List.drop_zero, Nat.min_eq_right h, Nat.sub_zero, List.take_length]
theorem pure__law_bag : ∀ ds M Q, sp__law_bag ds M Q → ds.length = (["_law_script"] : List Str).length ∧ t__law_bag { nx := fun _ M' => Q .non M', rt := Q } (startD ["_law_script", "_law_cells_z", "_law_cell_z", "_law_mark"] ds) M := by
  rintro ds M Q ⟨ns, rfl, hl, q⟩
  refine ⟨rfl, ?_⟩
  unfold t__law_bag
  refine s_set (v := .lst (ns.map D.int)) (fun K hK => ?_) ?_
  · simp only [dLc, dIt, dSl, dVar, dNoPart, dPart, dC, startD, slD]
    show compi _ _ _ _ (cut (ns.map D.int) none (some ((63 : Nat) : Int))) _ _ _
    rw [cut_all (by simpa using hl)]
    refine compi_of (f := D.int) _ _ _ (fun n _ Q h => ?_) (by simp; omega) (by simpa using hK)
    simpa [wipeD] using h
  refine s_set (v := .int (120310 + 61 * ns.length)) (fun K hK => ?_) ?_
  · simp
    exact ⟨.inl ⟨by decide, by decide⟩, hK⟩
  refine s_for (ds := ns.map D.int) (fun K hK => by simpa using hK) ?_
  have key : ∀ (l : List Int) (o : Option D) (m : Int), fori (gNm 2) (dAsg (dOp modD (dCB intD (dCons (dOp addD (dOp mulD (dVar 3) (dC (.int 6947))) (dVar 2)) dNil)) (dC (.int 2147483423))) (gNm 3)) (l.map D.int)
      { nx := dRet (dBag (dCons (dVar 1) (dCons (dC (.int 0)) (dCons (dC (.int 0)) (dCons (dVar 3) dNil))))) { nx := fun _ M' => Q .non M', rt := Q }, rt := Q } [some (.scr ns), some (.lst (ns.map D.int)), o, some (.int m)] M := by
    intro l
    induction l with
    | nil =>
      intro o m
      refine x_nil ?_
      simp only [dRet, dBag, dCons, dVar, dC, dNil]
      exact ⟨⟨ns, 0, 0, m, rfl, hl, by decide⟩, q⟩
    | cons n l ih =>
      intro o m
      refine x_cons ?_
      refine x_set (v := .int ((m * 6947 + n) % 2147483423)) (fun K hK => ?_) ?_
      · simp
        exact ⟨.inr ⟨by decide, by decide⟩, hK⟩
      · exact ih _ _
  exact key ns none _
theorem at0 {α : Type} {a b c d : α} : atI [a, b, c, d] 0 = some a := rfl
theorem at1 {α : Type} {a b c d : α} : atI [a, b, c, d] 1 = some b := rfl
theorem at2 {α : Type} {a b c d : α} : atI [a, b, c, d] 2 = some c := rfl
theorem at3 {α : Type} {a b c d : α} : atI [a, b, c, d] 3 = some d := rfl
theorem ix1 {α : Type} {a b c d : α} : ixN [a, b, c, d].length 1 = some 1 := rfl
theorem ix2 {α : Type} {a b c d : α} : ixN [a, b, c, d].length 2 = some 2 := rfl
theorem pure__law_draw : ∀ ds M Q, sp0__law_draw ds M Q → ds.length = (["_law_bag_here", "_law_many"] : List Str).length ∧ t__law_draw { nx := fun _ M' => Q .non M', rt := Q } (startD ["_law_bag_here", "_law_many", "_law_cell_z", "_law_mixed", "_law_second", "_law_digit"] ds) M := by
  rintro ds M Q ⟨b, many, cs, i, r, m, rfl, hM, hi, ⟨h1, h2⟩, q⟩
  refine ⟨rfl, ?_⟩
  unfold t__law_draw
  have fin : ∀ (i' : Int) (z : Int) (o : Option D) (M1 : Mu), M1 = setM M b (.lst [.lst (cs.map D.int), .int i', .int z, .int m]) → 0 ≤ i' →
      dSeq (dAsg (dOp modD (dCB intD (dCons (dOp ixD (dVar 0) (dC (.int 2))) dNil)) (dVar 1)) (gNm 5))
        (dSeq (dAsg (dOp fdivD (dCB intD (dCons (dOp ixD (dVar 0) (dC (.int 2))) dNil)) (dVar 1)) (gIx (dVar 0) (dC (.int 2)))) (dRet (dVar 5)))
        { nx := fun _ M' => Q .non M', rt := Q } [some (.ref b), some (.int many), o, none, none, none] M1 := by
    intro i' z o M1 e hi'
    have hM1 : M1 b = some (.lst [.lst (cs.map D.int), .int i', .int z, .int m]) := by rw [e]; exact setM_same
    refine s_set (v := .int (z % many)) (fun K hK => by simp [hM1, at2]; exact ⟨h1, hK⟩) ?_
    refine s_ix rfl hM1 rfl (v := .int (z / many)) (fun K hK => by simp [hM1, at2]; exact ⟨⟨h1, h2⟩, hK⟩) ?_
    refine x_ret (v := .int (z % many)) (fun K hK => by simpa using hK) ?_
    show Q _ _
    rw [e, setM_set]
    exact q _ _ _ (Int.emod_nonneg _ (by omega)) (Int.emod_lt_of_pos _ h1) hi'
  refine s_if (b := decide (r < 2)) (fun K hK => ?_) (fun hr => ?_) (fun hr => ?_)
  · simp [hM, at2]; exact hK
  · refine s_ix rfl hM rfl (v := .int (i + 1)) (fun K hK => by simp [hM, at1]; exact hK) ?_
    show dSeq _ _ _ _ (setM M b (.lst [.lst (cs.map D.int), .int (i + 1), .int r, .int m]))
    generalize hM1 : setM M b (.lst [.lst (cs.map D.int), .int (i + 1), .int r, .int m]) = M1
    have e1 : M1 b = some (.lst [.lst (cs.map D.int), .int (i + 1), .int r, .int m]) := by rw [← hM1]; exact setM_same
    refine s_set (v := .int (m + (i + 1) * 9241)) (fun K hK => by simp [e1, at1, at3]; exact ⟨.inr ⟨by decide, by decide⟩, hK⟩) ?_
    -- the cell: one of the script, or a mixed one
    have rest : ∀ (cell : Int), dSeq (dIfS (dOr (dB (dOp gtD (dOp ixD (dVar 0) (dC (.int 1))) (dCB lenD (dCons (dOp ixD (dVar 0) (dC (.int 0))) dNil)))) (dB (dOp ltD (dVar 2) (dOp powD (dC (.int 10)) (dC (.int 18))))))
        (dSeq (dAsg (dOp modD (dCB intD (dCons (dOp addD (dOp addD (dOp mulD (dVar 2) (dC (.int 43051))) (dOp mulD (dOp ixD (dVar 0) (dC (.int 1))) (dC (.int 39119)))) (dOp ixD (dVar 0) (dC (.int 3)))) dNil)) (dC (.int 2147483587))) (gNm 3))
          (dSeq (dAsg (dOp modD (dCB intD (dCons (dOp addD (dOp mulD (dVar 3) (dVar 3)) (dOp mulD (dOp ixD (dVar 0) (dC (.int 1))) (dC (.int 60607)))) dNil)) (dC (.int 998244353))) (gNm 4))
            (dRet (dOp modD (dOp fdivD (dOp modD (dCB intD (dCons (dOp addD (dOp mulD (dVar 4) (dC (.int 46819))) (dVar 3)) dNil)) (dC (.int 2147483549))) (dC (.int 23))) (dVar 1))))) dNext)
        (dAsg (dVar 2) (gIx (dVar 0) (dC (.int 2))))
        { nx := (dSeq (dAsg (dOp modD (dCB intD (dCons (dOp ixD (dVar 0) (dC (.int 2))) dNil)) (dVar 1)) (gNm 5)) (dSeq (dAsg (dOp fdivD (dCB intD (dCons (dOp ixD (dVar 0) (dC (.int 2))) dNil)) (dVar 1)) (gIx (dVar 0) (dC (.int 2)))) (dRet (dVar 5))) { nx := fun _ M' => Q .non M', rt := Q }), rt := Q } [some (.ref b), some (.int many), some (.int cell), none, none, none] M1 := by
      intro cell
      refine s_if (b := decide ((cs.length : Int) < i + 1) || decide (cell < 10 ^ 18)) (fun K hK => ?_) (fun _ => ?_) (fun _ => ?_)
      · simp [e1, at1, at0]
        have hp : CPow 10 18 := ⟨by decide, by decide, by decide⟩
        split
        · rename_i h; simpa [h] using hK
        · rename_i h; exact ⟨hp, by simpa [h] using hK⟩
      · refine s_set (v := .int ((cell * 43051 + (i + 1) * 39119 + m) % 2147483587)) (fun K hK => by simp [e1, at1, at3]; exact ⟨.inr ⟨by decide, by decide⟩, .inr ⟨by decide, by decide⟩, hK⟩) ?_
        generalize hx : (cell * 43051 + (i + 1) * 39119 + m) % 2147483587 = x
        have hx1 : 0 ≤ x ∧ x < 2147483587 := by omega
        refine s_set (v := .int ((x * x + (i + 1) * 60607) % 998244353)) (fun K hK => by simp [e1, at1, at3]; exact ⟨.inl ⟨by omega, by omega⟩, .inr ⟨by decide, by decide⟩, hK⟩) ?_
        generalize hy : (x * x + (i + 1) * 60607) % 998244353 = y
        refine x_ret (v := .int ((y * 46819 + x) % 2147483549 / 23 % many)) (fun K hK => by simp; exact ⟨.inr ⟨by decide, by decide⟩, h1, hK⟩) ?_
        show Q _ _
        rw [← hM1]
        exact q _ (i + 1) r (Int.emod_nonneg _ (by omega)) (Int.emod_lt_of_pos _ h1) (by omega)
      · refine s_next ?_
        refine x_ix rfl e1 rfl (v := .int cell) (fun K hK => by simpa using hK) ?_
        refine fin (i + 1) cell _ _ ?_ (by omega)
        rw [← hM1, setM_set]; rfl
    refine s_if (b := decide (i + 1 ≤ (cs.length : Int))) (fun K hK => by simp [e1, at1, at0]; exact hK) (fun h => ?_) (fun _ => s_next (rest _))
    have h' : i + 1 ≤ (cs.length : Int) := by simpa using h
    have hc : atI (cs.map D.int) i = some (.int (cs[i.toNat]'(by omega))) := by
      unfold atI ixN
      rw [if_pos hi, if_pos (by simp; omega)]
      show (cs.map D.int)[i.toNat]? = _
      rw [List.getElem?_map, List.getElem?_eq_getElem (by omega)]; rfl
    refine x_set (v := .int (cs[i.toNat]'(by omega))) (fun K hK => by simp only [dOp, dVar, dC, ixD, subD, List.set, startD, List.map, List.getElem?_cons_zero, e1, at0, at1]; simp [e1, at0, at1, hc]; exact hK) ?_
    exact rest _
  · refine s_next ?_
    refine fin i r none M ?_ hi
    funext x
    unfold setM
    split
    · rename_i h; rw [h, hM]
    · rfl
theorem pure__law_pick : ∀ ds M Q, sp__law_pick ds M Q → ds.length = (["_law_bag_here", "_law_some"] : List Str).length ∧ t__law_pick { nx := fun _ M' => Q .non M', rt := Q } (startD ["_law_bag_here", "_law_some"] ds) M := by
  rintro ds M Q (⟨b, xs, rfl, hb, ⟨h1, h2⟩, q⟩ | ⟨b, xs, rfl, hb, ⟨h1, h2⟩, q⟩ | ⟨b, z, rfl, hb, ⟨h1, h2⟩, q⟩)
  · refine ⟨rfl, ?_⟩
    simp [t__law_pick]
    refine ⟨b, xs.length, rfl, hb, ⟨by omega, by omega⟩, fun n h3 h4 => ?_⟩
    obtain ⟨x, e, hx⟩ := atI_some h3 h4
    simp only [e]; exact q x hx
  · refine ⟨rfl, ?_⟩
    simp [t__law_pick]
    refine ⟨b, xs.length, rfl, hb, ⟨by omega, by omega⟩, fun n h3 h4 => ?_⟩
    obtain ⟨x, e, hx⟩ := atI_some h3 h4
    simp only [e]; exact q x hx
  · refine ⟨rfl, ?_⟩
    simp [t__law_pick]
    refine ⟨by omega, b, z.length, rfl, hb, ⟨by omega, by omega⟩, fun n h3 h4 => ⟨by omega, ?_⟩⟩
    obtain ⟨x, e, hx⟩ := atI_some (xs := z.cps.toList) h3 (by simpa [Str.length] using h4)
    simp only [e]; exact q x hx
theorem pure__law_odd : ∀ ds M Q, sp__law_odd ds M Q → ds.length = (["_law_bag_here"] : List Str).length ∧ t__law_odd { nx := fun _ M' => Q .non M', rt := Q } (startD ["_law_bag_here"] ds) M := by
  rintro ds M Q ⟨b, rfl, hb, q⟩
  refine ⟨rfl, ?_⟩
  unfold t__law_odd
  simp
  refine .inl ⟨b, _, rfl, hb, ⟨by decide, by decide⟩, fun x hx => q x ?_⟩
  simp only [List.mem_cons, List.not_mem_nil, or_false] at hx
  rcases hx with rfl | rfl | rfl | rfl | rfl | rfl | rfl | rfl | rfl | rfl | rfl | rfl | rfl <;> decide +kernel
theorem pure__law_count : ∀ ds M Q, sp__law_count ds M Q → ds.length = (["_law_bag_here"] : List Str).length ∧ t__law_count { nx := fun _ M' => Q .non M', rt := Q } (startD ["_law_bag_here"] ds) M := by
  rintro ds M Q ⟨b, rfl, hb, q⟩
  refine ⟨rfl, ?_⟩
  unfold t__law_count
  simp
  refine ⟨b, 9, rfl, hb, ⟨by decide, by decide⟩, fun n _ _ => ?_⟩
  refine .inl ⟨b, _, rfl, hb, ⟨by simp, by simp⟩, fun x hx => ?_⟩
  simp only [List.mem_cons, List.not_mem_nil, or_false] at hx
  rcases hx with rfl | rfl | rfl | rfl | rfl | rfl | rfl | rfl | rfl | rfl | rfl | rfl | rfl | rfl | rfl | rfl <;> exact q _
/-- a text of good signs -/
def okc (c : Nat) : Prop := PyData.strOk ⟨#[c]⟩ = true
theorem pure__law_is_count : ∀ ds M Q, sp__law_is_count ds M Q → ds.length = (["_law_thing", "_law_low", "_law_high"] : List Str).length ∧ t__law_is_count { nx := fun _ M' => Q .non M', rt := Q } (startD ["_law_thing", "_law_low", "_law_high"] ds) M := by
  rintro ds M Q ⟨v, lo, hi, rfl, hv, q⟩
  refine ⟨rfl, ?_⟩
  have hty := gd_ty hv
  cases v <;> first | (cases (show false = true from hty); done) | skip
  all_goals simp [t__law_is_count, inst, tyN, isA, tyNames]
  all_goals simp [isNum] at q
  all_goals first | exact q | skip
  case int i =>
    split
    · rename_i h; simpa [h] using q
    · rename_i h; simpa [h] using q
theorem pure__law_is_word : ∀ ds M Q, sp__law_is_word ds M Q → ds.length = (["_law_thing"] : List Str).length ∧ t__law_is_word { nx := fun _ M' => Q .non M', rt := Q } (startD ["_law_thing", "_law_sign"] ds) M := by
  rintro ds M Q ⟨v, rfl, hv, q⟩
  refine ⟨rfl, ?_⟩
  have hty := gd_ty hv
  cases v <;> first | (cases (show false = true from hty); done) | skip
  all_goals simp [t__law_is_word, inst, tyN, isA, tyNames]
  all_goals first | exact q | skip
  case str z =>
    obtain ⟨h1, h2⟩ := gd_str hv
    refine ⟨by omega, ?_⟩
    simp only [isName] at q
    split
    · rename_i h3
      rw [decide_eq_false (show ¬ 1 ≤ z.length by omega)] at q
      simpa using q
    · rename_i h3
      refine ⟨by omega, ?_⟩
      split
      · rename_i h4
        rw [decide_eq_false (show ¬ z.length ≤ 6 by omega)] at q
        simpa using q
      · rename_i h4
        rw [decide_eq_true (show 1 ≤ z.length by omega), decide_eq_true (show z.length ≤ 6 by omega)] at q
        refine compi_of (f := fun ch => .bl (small ch)) _ _ _ (fun ch _ Q h => ?_) (by have : z.cps.size = z.length := rfl; simp; omega) ?_
        · simpa [wipeD, small] using h
        · refine ⟨z.cps.toList.map small, by simp, ?_⟩
          simpa using q
theorem pure__law_is_tuple : ∀ ds M Q, sp__law_is_tuple ds M Q → ds.length = (["_law_thing", "_law_highs"] : List Str).length ∧ t__law_is_tuple { nx := fun _ M' => Q .non M', rt := Q } (startD ["_law_thing", "_law_highs", "_law_one", "_law_high"] ds) M := by
  rintro ds M Q ⟨v, his, rfl, hv, hh, q⟩
  refine ⟨rfl, ?_⟩
  have hty := gd_ty hv
  cases v <;> first | (cases (show false = true from hty); done) | skip
  all_goals simp [t__law_is_tuple, inst, tyN, isA, tyNames]
  all_goals first | exact q | skip
  case tup xs =>
    obtain ⟨h1, h2⟩ := gd_tup hv
    simp only [isTup] at q
    by_cases hl : xs.length = his.length
    · rw [if_pos (by omega)]
      simp only [hl, decide_true, Bool.true_and] at q
      have hz : zipD xs (his.map D.int) = (xs.zip his).map fun p => .tup [p.1, .int p.2] := by
        unfold zipD
        rw [List.zip_map_right]
        simp
      rw [hz]
      refine compi_of (f := fun p => .bl (isNum p.1 0 p.2)) _ _ _ (fun p hp Q h => ?_) (by simp; omega) ?_
      · have hm : p.1 ∈ xs := (List.of_mem_zip hp).1
        simp [wipeD]
        exact ⟨_, _, _, rfl, gd_mono (h2 _ hm), h⟩
      · refine ⟨(xs.zip his).map fun p => isNum p.1 0 p.2, by simp, ?_⟩
        simpa using q
    · rw [if_neg (by omega)]
      simp only [hl, decide_false, Bool.false_and] at q
      simpa using q
theorem fig_ix (c : Nat) (h : figure c = true) : ∃ r, Builtin.Str.occurrences "0123456789" ⟨#[c]⟩ 0 ("0123456789" : Str).length 1 = (c - 48) :: r := by
  have h1 := (fig_iff c).mp h
  have : ∀ k : Nat, k < 10 → ∃ r, Builtin.Str.occurrences "0123456789" ⟨#[48 + k]⟩ 0 ("0123456789" : Str).length 1 = k :: r := by
    intro k hk
    have hh : ∀ k : Fin 10, (Builtin.Str.occurrences "0123456789" ⟨#[48 + k.val]⟩ 0 ("0123456789" : Str).length 1).head? = some k.val := by decide +kernel
    have := hh ⟨k, hk⟩
    cases e : Builtin.Str.occurrences "0123456789" ⟨#[48 + k]⟩ 0 ("0123456789" : Str).length 1 with
    | nil => rw [e] at this; cases this
    | cons a r => rw [e] at this; simp at this; exact ⟨r, by rw [this]⟩
  have := this (c - 48) (by omega)
  rwa [show 48 + (c - 48) = c by omega] at this
theorem pure__law_number_of : ∀ ds M Q, sp__law_number_of ds M Q → ds.length = (["_law_thing"] : List Str).length ∧ t__law_number_of { nx := fun _ M' => Q .non M', rt := Q } (startD ["_law_thing", "_law_found", "_law_sign"] ds) M := by
  rintro ds M Q ⟨v, rfl, hv, q⟩
  refine ⟨rfl, ?_⟩
  have hty := gd_ty hv
  unfold t__law_number_of
  -- the first test
  cases v with
  | str z =>
    obtain ⟨h1, h2⟩ := gd_str hv
    have hsz : z.cps.toList.length = z.length := by simp [Str.length]
    simp only [numIn] at q
    refine s_if (b := decide (z.length < 1) || decide (9 < z.length) || lead z) (fun K hK => ?_) (fun h => ?_) (fun h => ?_)
    · simp [inst, tyN, isA, tyNames]
      refine ⟨by omega, ?_⟩
      split
      · rename_i h3; rw [decide_eq_true (show z.length < 1 by omega)] at hK; simpa using hK
      · rename_i h3
        rw [decide_eq_false (show ¬ z.length < 1 by omega)] at hK
        refine ⟨by omega, ?_⟩
        split
        · rename_i h4; rw [decide_eq_true (show 9 < z.length by omega)] at hK; simpa using hK
        · rename_i h4
          rw [decide_eq_false (show ¬ 9 < z.length by omega)] at hK
          cases hc : z.cps.toList with
          | nil => rw [hc] at hsz; simp at hsz; omega
          | cons ch r =>
            have ha : atI (ch :: r) 0 = some ch := by
              unfold atI ixN
              rw [if_pos (by decide), if_pos (by simp)]; rfl
            have hl : lead z = (eqB (.str ⟨#[ch]⟩) (.str "0") && !eqB (.str z) (.str "0")) := by unfold lead; rw [hc]
            rw [hl] at hK
            simp only [ha, eqB_str] at hK ⊢
            refine ⟨by omega, ?_⟩
            by_cases h7 : (⟨#[ch]⟩ : Str) = "0"
            · rw [if_pos h7]
              simpa [h7] using hK
            · rw [if_neg h7]
              have h7' : ((⟨#[ch]⟩ : Str) == "0") = false := by simpa using h7
              rw [h7'] at hK
              simpa using hK
    · refine x_ret (v := .non) (fun K hK => by simpa using hK) ?_
      show Q .non M
      have : (decide (1 ≤ z.length) && decide (z.length ≤ 9) && z.cps.toList.all figure && !lead z) = false := by
        rw [Bool.or_eq_true, Bool.or_eq_true, decide_eq_true_eq, decide_eq_true_eq] at h
        rcases h with (h | h) | h
        · rw [decide_eq_false (show ¬ 1 ≤ z.length by omega)]; rfl
        · rw [decide_eq_false (show ¬ z.length ≤ 9 by omega)]; simp
        · rw [h]; simp
      rw [this] at q
      simpa using q
    · refine s_next ?_
      rw [Bool.or_eq_false_iff, Bool.or_eq_false_iff, decide_eq_false_iff_not, decide_eq_false_iff_not] at h
      obtain ⟨⟨h3, h4⟩, h5⟩ := h
      rw [decide_eq_true (show 1 ≤ z.length by omega), decide_eq_true (show z.length ≤ 9 by omega), h5] at q
      refine s_set (v := .int 0) (fun K hK => by simpa using hK) ?_
      refine s_for (ds := signs z) (fun K hK => by simpa using hK) ?_
      have key : ∀ (l : List Nat) (n : Int) (o : Option D), (if (l.all figure) = true then Q (.int (l.foldl (fun (n : Int) (c : Nat) => n * 10 + ((c : Int) - 48)) n)) M else Q .non M) →
          fori (gNm 2) (dSeq (dIfS (dB (dOp ninD (dVar 2) (dC (.str "0123456789")))) (dRet (dC .non)) dNext) (dAsg (dOp addD (dOp mulD (dVar 1) (dC (.int 10))) (dM1 sindexD (dC (.str "0123456789")) (dVar 2))) (gNm 1))) (l.map fun c => .str ⟨#[c]⟩)
            { nx := dRet (dVar 1) { nx := fun _ M' => Q .non M', rt := Q }, rt := Q } [some (.str z), some (.int n), o] M := by
        intro l
        induction l with
        | nil =>
          intro n o hq
          refine x_nil (x_ret (v := .int n) (fun K hK => by simpa using hK) ?_)
          simpa using hq
        | cons ch l ih =>
          intro n o hq
          refine x_cons ?_
          refine s_if (b := !figure ch) (fun K hK => by simpa [figure] using hK) (fun h6 => ?_) (fun h6 => ?_)
          · refine x_ret (v := .non) (fun K hK => by simpa using hK) ?_
            have h6' : figure ch = false := by simpa using h6
            simpa [h6'] using hq
          · have h6' : figure ch = true := by simpa using h6
            obtain ⟨r, hr⟩ := fig_ix ch h6'
            have h7 := (fig_iff ch).mp h6'
            refine s_next (x_set (v := .int (n * 10 + ((ch - 48 : Nat) : Int))) (fun K hK => ?_) ?_)
            · simp [hr]
              exact ⟨.inr ⟨by decide, by decide⟩, hK⟩
            · refine ih _ _ ?_
              rw [show (n * 10 + ((ch - 48 : Nat) : Int)) = n * 10 + ((ch : Int) - 48) by omega]
              simpa [h6'] using hq
      refine key z.cps.toList 0 none ?_
      unfold numOf at q
      cases hf : z.cps.toList.all figure with
      | true => rw [hf] at q; rw [if_pos rfl]; exact q
      | false => rw [hf] at q; rw [if_neg (by decide)]; exact q
  | non => refine s_if (b := true) (fun K hK => by simp [inst, tyN, isA, tyNames]; exact hK) (fun _ => x_ret (v := .non) (fun K hK => by simpa using hK) q) (fun h => by cases h)
  | bl b => refine s_if (b := true) (fun K hK => by simp [inst, tyN, isA, tyNames]; exact hK) (fun _ => x_ret (v := .non) (fun K hK => by simpa using hK) q) (fun h => by cases h)
  | int b => refine s_if (b := true) (fun K hK => by simp [inst, tyN, isA, tyNames]; exact hK) (fun _ => x_ret (v := .non) (fun K hK => by simpa using hK) q) (fun h => by cases h)
  | lst b => refine s_if (b := true) (fun K hK => by simp [inst, tyN, isA, tyNames]; exact hK) (fun _ => x_ret (v := .non) (fun K hK => by simpa using hK) q) (fun h => by cases h)
  | tup b => refine s_if (b := true) (fun K hK => by simp [inst, tyN, isA, tyNames]; exact hK) (fun _ => x_ret (v := .non) (fun K hK => by simpa using hK) q) (fun h => by cases h)
  | dct b => cases (show false = true from hv)
  | obj C b => cases (show false = true from hv)
  | ref b => cases (show false = true from hv)
  | ty b => cases (show false = true from hv)
  | scr b => cases (show false = true from hv)
theorem pure__law_same (n : Nat) : ∀ ds M Q, spSame n ds M Q → ds.length = (["_law_found", "_law_due"] : List Str).length ∧ t__law_same (spPrev n) { nx := fun _ M' => Q .non M', rt := Q } (startD ["_law_found", "_law_due", "_law_one", "_law_two"] ds) M := by
  rintro ds M Q ⟨x, y, rfl, hx, hy, q⟩
  refine ⟨rfl, ?_⟩
  cases x <;> cases y <;> first
    | (exfalso; cases n <;> exact Bool.noConfusion (show false = true from hx))
    | (exfalso; cases n <;> exact Bool.noConfusion (show false = true from hy))
    | skip
  all_goals simp [t__law_same, inst, tyN, isA, tyNames, tysOf, isNon]
  all_goals first
    | exact q _ (by simp)
    | (refine q _ ?_; rw [beq_iff_eq]; exact ⟨fun h => by rw [h], fun h => by injection h⟩)
    | skip
  case lst.lst xs ys =>
    cases n with
    | zero => cases (show false = true from hx)
    | succ n =>
      obtain ⟨h1, h2⟩ := gd_lst hx
      obtain ⟨h3, h4⟩ := gd_lst hy
      split
      · rename_i hl
        have hl' : xs.length = ys.length := by omega
        refine compi_rel (P := fun z d => ∀ x y, z = .tup [x, y] → ∃ k : Bool, d = .bl k ∧ (k = true ↔ x = y)) _ _ _ (fun z hz Q hQ => ?_) (by simp [zipD]; omega) (fun ds hp => ?_)
        · unfold zipD at hz
          obtain ⟨p, hp, rfl⟩ := List.mem_map.mp hz
          obtain ⟨m1, m2⟩ := List.of_mem_zip hp
          simp [wipeD]
          exact ⟨_, _, rfl, h2 _ m1, h4 _ m2, fun k hk => hQ _ fun x y e => by
            injection e with e; injection e with e1 e2; injection e2 with e2 _
            exact ⟨k, rfl, by rw [hk, e1, e2]⟩⟩
        · obtain ⟨bs, rfl, hb⟩ := same_all hl' hp
          exact ⟨bs, by simp, q _ (by rw [hb]; exact ⟨fun h => by rw [h], fun h => by injection h⟩)⟩
      · rename_i hl
        refine q _ ?_
        simp
        intro e
        exact hl (by rw [e])
  case tup.tup xs ys =>
    cases n with
    | zero => cases (show false = true from hx)
    | succ n =>
      obtain ⟨h1, h2⟩ := gd_tup hx
      obtain ⟨h3, h4⟩ := gd_tup hy
      split
      · rename_i hl
        have hl' : xs.length = ys.length := by omega
        refine compi_rel (P := fun z d => ∀ x y, z = .tup [x, y] → ∃ k : Bool, d = .bl k ∧ (k = true ↔ x = y)) _ _ _ (fun z hz Q hQ => ?_) (by simp [zipD]; omega) (fun ds hp => ?_)
        · unfold zipD at hz
          obtain ⟨p, hp, rfl⟩ := List.mem_map.mp hz
          obtain ⟨m1, m2⟩ := List.of_mem_zip hp
          simp [wipeD]
          exact ⟨_, _, rfl, h2 _ m1, h4 _ m2, fun k hk => hQ _ fun x y e => by
            injection e with e; injection e with e1 e2; injection e2 with e2 _
            exact ⟨k, rfl, by rw [hk, e1, e2]⟩⟩
        · obtain ⟨bs, rfl, hb⟩ := same_all hl' hp
          exact ⟨bs, by simp, q _ (by rw [hb]; exact ⟨fun h => by rw [h], fun h => by injection h⟩)⟩
      · rename_i hl
        refine q _ ?_
        simp
        intro e
        exact hl (by rw [e])
def Wrd (n : Nat) (d : D) : Prop := ∃ z, d = .str z ∧ z.length ≤ n ∧ PyData.strOk z = true
theorem signs_ok {z : Str} (h : PyData.strOk z = true) {ch : Nat} (hc : ch ∈ z.cps.toList) : Wrd 1 (.str ⟨#[ch]⟩) := ⟨_, rfl, Nat.le_refl 1, by
  rw [strOk_iff]
  intro c h2
  simp at h2
  subst h2
  exact (strOk_iff z).mp h c hc⟩
/-- "".join([pick(bag, z) for k in range(draw(bag, m))]) -/
theorem join_picks {b : Addr} {M : Mu} {z : Str} {m : Nat} {K : DK} {ρ : DEnv} {vs : List Nat} {tb tz : DE} (hb : M b = some .bag) (hz : 0 < z.length ∧ z.length ≤ 50000) (hok : PyData.strOk z = true) (hm : 0 < m ∧ m ≤ 1000) (hK : ∀ d, Wrd m d → K d M)
    (k : Nat) (ht : ∀ (K : DK), K (.ref b) M → tb ρ M K) (hb2 : ∀ (x : D) (K : DK), K (.ref b) M → tb ((wipeD ρ vs).set k (some x)) M K) (hz2 : ∀ (x : D) (K : DK), K (.str z) M → tz ((wipeD ρ vs).set k (some x)) M K) :
    dM1 joinD (dC (.str "")) (dLc (dRng1 (dCons (dCall sp__law_draw (dCons tb (dCons (dC (.int (m : Int))) dNil))) dNil)) (gNm k) dYes (dCall sp__law_pick (dCons tb (dCons tz dNil))) vs) ρ M K := by
  simp only [dM1, dC, dLc, dRng1, dCons, dCall, dNil]
  refine ht _ ⟨b, m, rfl, hb, ⟨by omega, by omega⟩, fun n h0 h1 => ⟨by omega, ?_⟩⟩
  refine compi_any (P := Wrd 1) _ _ _ (fun x _ Q hQ => ?_) (by simp [rngD]; omega) (fun ds hl hp => ?_)
  · refine hb2 x _ (hz2 x _ (.inr (.inr ⟨b, z, rfl, hb, ⟨hz.1, by omega⟩, fun ch hc => hQ _ (signs_ok hok hc)⟩)))
  · obtain ⟨ys, rfl, hy⟩ := strs_ex hp
    rw [rngD_len] at hl
    have hl2 : ys.length < m := by simp at hl; omega
    have e0 : ("" : Str).length = 0 := by decide +kernel
    refine ⟨ys, rfl, ?_, hK _ ⟨_, rfl, ?_, join0_ok fun y hy' => (hy y hy').2⟩⟩
    · have := sum_len fun y hy' => (hy y hy').1
      rw [e0]; omega
    · have := join0_len fun y hy' => (hy y hy').1
      omega
/-- found[:spot] + x + found[spot:] -/
theorem bent_ok {z y : Str} {n k : Nat} (lo hi : Option Int) (hz : z.length ≤ n) (oz : PyData.strOk z = true) (hy : y.length ≤ k) (oy : PyData.strOk y = true) (lo' hi' : Option Int) : Wrd (n + k + n) (.str (cutS z lo hi ++ y ++ cutS z lo' hi')) :=
  ⟨_, rfl, by
    have h1 := cutS_len z lo hi
    have h2 := cutS_len z lo' hi'
    rw [app_len, app_len]; omega, strOk_app (strOk_app (strOk_cut oz _ _) oy) (strOk_cut oz _ _)⟩
theorem pure__law_word : ∀ ds M Q, sp__law_word ds M Q → ds.length = (["_law_bag_here"] : List Str).length ∧ t__law_word { nx := fun _ M' => Q .non M', rt := Q } (startD ["_law_bag_here", "_law_letters", "_law_found", "_law_k", "_law_spot"] ds) M := by
  rintro ds M Q ⟨b, rfl, hb, q⟩
  refine ⟨rfl, ?_⟩
  unfold t__law_word
  refine s_set (v := .str "abcdefghijklmnopqrstuvwxyz") (fun K hK => by simpa using hK) ?_
  refine s_setQ (Wrd 8) (fun K hK => join_picks (m := 8) (z := "abcdefghijklmnopqrstuvwxyz") hb (by decide +kernel) (by decide +kernel) (by decide) hK _ (fun K h => by simpa using h) (fun x K h => by simpa [wipeD] using h) (fun x K h => by simpa [wipeD] using h)) ?_
  rintro d ⟨z, rfl, hl, hok⟩
  refine s_setQ (fun d => ∃ n : Int, d = .int n ∧ 0 ≤ n) (fun K hK => ?_) ?_
  · simp
    exact ⟨by omega, b, (z.length : Int) + 1, rfl, hb, ⟨by omega, by omega⟩, fun n h0 _ => hK _ ⟨n, rfl, h0⟩⟩
  rintro d ⟨n, rfl, hn⟩
  refine x_retP (fun d M1 => Wrd 20 d ∧ M1 = M) (fun K hK => ?_) (fun d M1 h => ?_)
  · simp
    refine ⟨by omega, .inl ⟨b, _, rfl, hb, ⟨by decide, by decide⟩, fun x hx => ?_⟩⟩
    have hx' : Wrd 4 x := by
      simp only [List.mem_cons, List.not_mem_nil, or_false] at hx
      rcases hx with rfl | rfl | rfl | rfl | rfl | rfl | rfl | rfl | rfl | rfl <;> exact ⟨_, rfl, by decide +kernel, by decide +kernel⟩
    obtain ⟨y, rfl, hy, oy⟩ := hx'
    have c1 := cutS_len z none (some n)
    have c2 := cutS_len z (some n) none
    exact ⟨by omega, by omega, by rw [app_len]; omega, hK _ _ ⟨bent_ok _ _ hl hok hy oy _ _, rfl⟩⟩
  · obtain ⟨⟨z, rfl, h1, h2⟩, rfl⟩ := h
    exact q z (by omega) h2
theorem int_text {n : Int} (h0 : 0 ≤ n) (h1 : n < 10 ^ 9) : Wrd 9 (.str (toString n)) := by
  obtain ⟨k, rfl⟩ : ∃ k : Nat, n = (k : Int) := ⟨n.toNat, by omega⟩
  refine ⟨_, rfl, ?_, ?_⟩
  · rw [← len_cps]
    have e : (PySem.Str.ofString (toString (k : Int))).cps.toList = TL.numL k := TL.tl_num k
    show (PySem.Str.ofString (toString (k : Int))).cps.toList.length ≤ 9
    rw [e]
    exact TL.numL_len (by decide) (by omega)
  · rw [strOk_iff]
    have e : (PySem.Str.ofString (toString (k : Int))).cps.toList = TL.numL k := TL.tl_num k
    show ∀ c ∈ (PySem.Str.ofString (toString (k : Int))).cps.toList, _
    rw [e]
    intro c hc
    have := TL.numL_digits k c hc
    omega
theorem log_okB {n : Int} (h0 : 0 ≤ n) (h1 : n < 10 ^ 18) : n.natAbs.log2 < 1920 := by
  have h2 : n.natAbs < 2 ^ 60 := by omega
  by_cases h : n.natAbs = 0
  · rw [h]; decide
  · have := (Nat.log2_lt h).mpr h2
    omega
theorem pure__law_figures : ∀ ds M Q, sp__law_figures ds M Q → ds.length = (["_law_bag_here"] : List Str).length ∧ t__law_figures { nx := fun _ M' => Q .non M', rt := Q } (startD ["_law_bag_here", "_law_found", "_law_k", "_law_way", "_law_spot"] ds) M := by
  rintro ds M Q ⟨b, rfl, hb, q⟩
  refine ⟨rfl, ?_⟩
  unfold t__law_figures
  refine s_setQ (Wrd 11) (fun K hK => ?_) ?_
  · exact join_picks (m := 11) (z := "0123456789") (tz := dC (.str "0123456789")) hb (by decide +kernel) (by decide +kernel) (by decide) hK _ (fun K h => by simpa using h) (fun x K h => by simpa [wipeD] using h) (fun x K h => by simpa [wipeD] using h)
  rintro d ⟨z, rfl, hl, hok⟩
  refine s_setQ (fun d => ∃ n : Int, d = .int n) (fun K hK => ?_) ?_
  · simp
    exact ⟨b, 8, rfl, hb, ⟨by decide, by decide⟩, fun n h0 _ => hK _ ⟨n, rfl⟩⟩
  rintro d ⟨way, rfl⟩
  refine s_if (b := way == 0) (fun K hK => by simpa using hK) (fun _ => ?_) (fun _ => ?_)
  · refine s_setQ (fun d => ∃ n : Int, d = .int n ∧ 0 ≤ n) (fun K hK => ?_) ?_
    · simp
      exact ⟨by omega, b, (z.length : Int) + 1, rfl, hb, ⟨by omega, by omega⟩, fun n h0 _ => hK _ ⟨n, rfl, h0⟩⟩
    rintro d ⟨n, rfl, hn⟩
    refine x_retP (fun d M1 => Wrd 26 d ∧ M1 = M) (fun K hK => ?_) (fun d M1 h => ?_)
    · simp
      refine ⟨by omega, .inl ⟨b, _, rfl, hb, ⟨by decide, by decide⟩, fun x hx => ?_⟩⟩
      have hx' : Wrd 4 x := by
        simp only [List.mem_cons, List.not_mem_nil, or_false] at hx
        rcases hx with rfl | rfl | rfl | rfl | rfl | rfl | rfl | rfl <;> exact ⟨_, rfl, by decide +kernel, by decide +kernel⟩
      obtain ⟨y, rfl, hy, oy⟩ := hx'
      have c1 := cutS_len z none (some n)
      have c2 := cutS_len z (some n) none
      exact ⟨by omega, by omega, by rw [app_len]; omega, hK _ _ ⟨bent_ok _ _ hl hok hy oy _ _, rfl⟩⟩
    · obtain ⟨⟨z, rfl, h1, h2⟩, rfl⟩ := h
      exact q z (by omega) h2
  · refine s_next (x_retP (fun d M1 => Wrd 26 d ∧ M1 = M) (fun K hK => ?_) (fun d M1 h => ?_))
    · simp
      split
      · refine ⟨⟨by decide, by decide, by decide⟩, b, (10 : Int) ^ 9, rfl, hb, ⟨by decide, by decide⟩, fun n h0 h1 => ⟨log_okB h0 (by omega), hK _ _ ⟨?_, rfl⟩⟩⟩
        obtain ⟨y, e, h1, h2⟩ := int_text h0 h1
        exact ⟨y, e, by omega, h2⟩
      · exact hK _ _ ⟨⟨z, rfl, by omega, hok⟩, rfl⟩
    · obtain ⟨⟨z, rfl, h1, h2⟩, rfl⟩ := h
      exact q z (by omega) h2
theorem numIn_gd (v : D) (n : Nat) : gd n (numIn v) = true := by
  cases v <;> first | (cases n <;> rfl) | skip
  case str z =>
    simp only [numIn]
    split <;> (cases n <;> rfl)
theorem pure__law_judged_so : ∀ ds M Q, sp__law_judged_so ds M Q → ds.length = (["_law_thing", "_law_low", "_law_high"] : List Str).length ∧ t__law_judged_so { nx := fun _ M' => Q .non M', rt := Q } (startD ["_law_thing", "_law_low", "_law_high", "_law_found", "_law_due"] ds) M := by
  rintro ds M Q ⟨v, lo, hi, rfl, hv, q⟩
  refine ⟨rfl, ?_⟩
  have g5 := gd_mono hv
  unfold t__law_judged_so
  refine s_set (v := .lst [.bl (isName v), .bl (isTup v [5, 5]), .bl (isTup v [8, 5, 5]), .bl (isNum v lo hi), numIn v]) (fun K hK => ?_) ?_
  · simp
    exact ⟨v, rfl, g5, v, rfl, g5, v, rfl, g5, v, lo, hi, rfl, g5, v, rfl, g5, hK⟩
  refine s_set (v := .lst [.bl (isName v), .bl (isTup v [5, 5]), .bl (isTup v [8, 5, 5])]) (fun K hK => ?_) ?_
  · simp
    exact ⟨v, rfl, g5, v, [5, 5], rfl, g5, by decide, v, [8, 5, 5], rfl, g5, by decide, hK⟩
  refine x_ret (v := .bl true) (fun K hK => ?_) q
  simp
  refine ⟨v, lo, hi, rfl, g5, v, rfl, g5, _, _, rfl, ?_, ?_, fun k hk => ?_⟩
  · simp [gd, numIn_gd]
  · simp [gd, numIn_gd]
  · have : k = true := hk.mpr rfl
    rw [this]; exact hK
abbrev tx (n : Nat) : Str := PySem.Str.ofString (toString (n : Int))
theorem tx_tl (n : Nat) : (tx n).cps.toList = TL.numL n := TL.tl_num n
theorem numL_head : ∀ (n : Nat), 0 < n → (TL.numL n).head? ≠ some 48 := by
  intro n
  induction n using Nat.strongRecOn with
  | _ n ih =>
    intro hn
    by_cases h : n < 10
    · rw [TL.numL_lt h]; simp; omega
    · rw [TL.numL_step (by omega)]
      have h1 := ih (n / 10) (by omega) (by omega)
      cases e : TL.numL (n / 10) with
      | nil => exact absurd e (TL.numL_ne _)
      | cons a r => rw [e] at h1; simpa using h1
theorem figs_numL (n : Nat) : (TL.numL n).all figure = true := by
  rw [List.all_eq_true]
  intro c hc
  exact (fig_iff c).mpr (TL.numL_digits n c hc)
theorem str_ext {a b : Str} (h : a.cps.toList = b.cps.toList) : a = b := by
  cases a; cases b
  congr 1
  exact Array.toList_inj.mp h
theorem one_eq (c : Nat) : ((⟨#[c]⟩ : Str) = "0") ↔ c = 48 := by
  constructor
  · intro h
    have h2 : (⟨#[c]⟩ : Str).cps.toList = ("0" : Str).cps.toList := by rw [h]
    have e : ("0" : Str).cps.toList = [48] := by decide +kernel
    rw [e] at h2
    simpa using h2
  · intro h
    subst h
    apply str_ext
    decide +kernel
theorem lead_numL (n : Nat) : lead (tx n) = false := by
  unfold lead
  by_cases hn : n = 0
  · subst hn
    decide +kernel
  · rw [tx_tl]
    have h1 := numL_head n (by omega)
    cases e : TL.numL n with
    | nil => rfl
    | cons a r =>
      rw [e] at h1
      have : ¬ (⟨#[a]⟩ : Str) = "0" := by rw [one_eq]; simpa using h1
      simp [this]
theorem num_of_text {n : Nat} (h : n < 10 ^ 9) : numIn (.str (tx n)) = .int n := by
  have hl : (tx n).length ≤ 9 := by
    rw [← len_cps, tx_tl]; exact TL.numL_len (by decide) h
  have h1 : 1 ≤ (tx n).length := by
    rw [← len_cps, tx_tl]
    cases e : TL.numL n with
    | nil => exact absurd e (TL.numL_ne _)
    | cons a r => simp
  simp only [numIn]
  rw [decide_eq_true h1, decide_eq_true hl, tx_tl, figs_numL, lead_numL]
  simp
  exact TL.fold_num n
theorem zero_tl (z : Str) : ("0" ++ z : Str).cps.toList = 48 :: z.cps.toList := by
  rw [app_tl]
  have e : ("0" : Str).cps.toList = [48] := by decide +kernel
  rw [e]; rfl
theorem num_of_zero (n : Nat) : numIn (.str ("0" ++ tx n)) = .non := by
  have hl : lead ("0" ++ tx n) = true := by
    unfold lead
    rw [zero_tl]
    have h1 : (⟨#[48]⟩ : Str) = "0" := (one_eq 48).mpr rfl
    have h2 : ¬ ("0" ++ tx n : Str) = "0" := by
      intro h
      have h3 : ("0" ++ tx n : Str).cps.toList = ("0" : Str).cps.toList := by rw [h]
      have e : ("0" : Str).cps.toList = [48] := by decide +kernel
      rw [zero_tl, e, tx_tl] at h3
      have : TL.numL n = [] := by simpa using h3
      exact TL.numL_ne n this
    simp [h1, h2]
  simp only [numIn]
  rw [hl]
  simp
theorem val_lt : ∀ (l : List Nat) (a : Nat), NumText.AllDigits l → l.foldl (fun acc c => acc * 10 + (c - 48)) a < (a + 1) * 10 ^ l.length
  | [], a, _ => by simp
  | c :: r, a, h => by
    have hc := h.head
    have ih := val_lt r (a * 10 + (c - 48)) h.tail
    rw [List.foldl_cons]
    refine Nat.lt_of_lt_of_le ih ?_
    rw [List.length_cons, Nat.pow_succ', ← Nat.mul_assoc]
    exact Nat.mul_le_mul_right _ (by omega)
theorem num_of_long {n : Nat} (h : 10 ^ 9 ≤ n) : numIn (.str (tx n)) = .non := by
  have hl : ¬ (tx n).length ≤ 9 := by
    rw [← len_cps, tx_tl]
    intro hl
    have h1 := TL.numL_val n
    have h2 := val_lt (TL.numL n) 0 (TL.numL_digits n)
    unfold NumText.digitsVal at h1
    rw [h1] at h2
    have h3 : 10 ^ (TL.numL n).length ≤ 10 ^ 9 := Nat.pow_le_pow_right (by decide) hl
    omega
  simp only [numIn]
  rw [decide_eq_false hl]
  simp
/-- a list of good things -/
def Gs (n m : Nat) (xs : List D) : Prop := xs.length ≤ m ∧ ∀ x ∈ xs, gd n x = true
theorem Gs.cut {n m : Nat} {xs : List D} (h : Gs n m xs) (lo hi : Option Int) : Gs n m (cut xs lo hi) := ⟨Nat.le_trans (cut_len _ _ _) h.1, fun x hx => h.2 x (cut_mem hx)⟩
theorem Gs.app {n m k : Nat} {xs ys : List D} (h : Gs n m xs) (h' : Gs n k ys) : Gs n (m + k) (xs ++ ys) := ⟨by rw [List.length_append]; have := h.1; have := h'.1; omega, fun x hx => (List.mem_append.mp hx).elim (h.2 x) (h'.2 x)⟩
theorem Gs.tup {n m : Nat} {xs : List D} (h : Gs n m xs) (hm : m ≤ 50000) : gd (n + 1) (.tup xs) = true := by
  simp only [gd, Bool.and_eq_true, decide_eq_true_eq, List.all_eq_true]
  exact ⟨by have := h.1; omega, h.2⟩
theorem Gs.lst {n m : Nat} {xs : List D} (h : Gs n m xs) (hm : m ≤ 50000) : gd (n + 1) (.lst xs) = true := by
  simp only [gd, Bool.and_eq_true, decide_eq_true_eq, List.all_eq_true]
  exact ⟨by have := h.1; omega, h.2⟩
/-- what a row adds -/
def six (r : List D) : List D := [.tup (DL.cut r none (some 2)), .tup (DL.cut r none (some 3)), .tup r, .lst (DL.cut r none (some 2)), .lst (DL.cut r none (some 3)), .tup (DL.cut r (some 1) (some 3))]
theorem six_gd {r : List D} (h : Gs 3 10 r) : Gs 4 6 (six r) := by
  refine ⟨Nat.le_refl 6, fun x hx => ?_⟩
  unfold six at hx
  simp only [List.mem_cons, List.not_mem_nil, or_false] at hx
  rcases hx with rfl | rfl | rfl | rfl | rfl | rfl
  · exact (h.cut _ _).tup (by decide)
  · exact (h.cut _ _).tup (by decide)
  · exact h.tup (by decide)
  · exact (h.cut _ _).lst (by decide)
  · exact (h.cut _ _).lst (by decide)
  · exact (h.cut _ _).tup (by decide)
theorem ints_gd {ds : List D} (n : Nat) (h : ∀ d ∈ ds, ∃ i : Int, d = .int i) : ∀ d ∈ ds, gd n d = true := fun d hd => by
  obtain ⟨i, rfl⟩ := h d hd
  cases n <;> rfl
theorem log_ok {n : Int} (h0 : 0 ≤ n) (h1 : n < 10 ^ 18) : n.natAbs.log2 < 1920 := by
  have h2 : n.natAbs < 2 ^ 60 := by omega
  by_cases h : n.natAbs = 0
  · rw [h]; decide
  · have := (Nat.log2_lt h).mpr h2
    omega
theorem tx_len {n : Nat} (h : n < 10 ^ 18) : (tx n).length ≤ 18 := by
  rw [← len_cps, tx_tl]; exact TL.numL_len (by decide) h
theorem tx_gd {n : Nat} (h : n < 10 ^ 18) : gd 5 (.str (tx n)) = true := by
  have h1 := tx_len h
  have h2 : PyData.strOk (tx n) = true := by
    rw [strOk_iff, tx_tl]
    intro c hc
    have := TL.numL_digits n c hc
    omega
  simp only [gd, h2, Bool.true_and, decide_eq_true_eq]
  omega
/-- the loop over the things -/
theorem things {M : Mu} {Q : DK} {lo hi : Int} {nx : DEnv → Mu → Prop} {bk ct : DEnv → Mu → Prop} {o0 o1 o2 o5 o6 o7 o8 o9 o10 o12 o13 : Option D} (hnx : ∀ o11, nx [o0, o1, o2, some (.int lo), some (.int hi), o5, o6, o7, o8, o9, o10, o11, o12, o13] M) :
    ∀ (xs : List D) (o11 : Option D), (∀ x ∈ xs, gd 4 x = true) → fori (gNm 11) t_law_b2 xs { nx := nx, rt := Q, bk := bk, ct := ct } [o0, o1, o2, some (.int lo), some (.int hi), o5, o6, o7, o8, o9, o10, o11, o12, o13] M := by
  intro xs
  induction xs with
  | nil => intro o11 _; exact x_nil (hnx o11)
  | cons x xs ih =>
    intro o11 h
    refine x_cons ?_
    unfold t_law_b2
    refine x_if (b := false) (fun K hK => ?_) (fun h => by cases h) (fun _ => ?_)
    · simp
      exact ⟨x, lo, hi, rfl, h x List.mem_cons_self, hK⟩
    · exact s_next (ih _ fun y hy => h y (List.mem_cons_of_mem _ hy))
theorem turn {M : Mu} {Q : DK} {b : Addr} {nx : DEnv → Mu → Prop} {bk ct : DEnv → Mu → Prop} {o0 o2 : Option D} (hb : M b = some .bag)
    (hnx : ∀ o3 o4 o5 o6 o7 o8 o9 o10 o11 o12 o13, nx [o0, some (.ref b), o2, o3, o4, o5, o6, o7, o8, o9, o10, o11, o12, o13] M) :
    ∀ o3 o4 o5 o6 o7 o8 o9 o10 o11 o12 o13 : Option D, t_law_b3 { nx := nx, rt := Q, bk := bk, ct := ct } [o0, some (.ref b), o2, o3, o4, o5, o6, o7, o8, o9, o10, o11, o12, o13] M := by
  intro o3 o4 o5 o6 o7 o8 o9 o10 o11 o12 o13
  unfold t_law_b3
  refine s_setQ (fun d => ∃ i : Int, d = .int i) (fun K hK => ?_) ?_
  · simp
    exact ⟨b, rfl, hb, fun i => hK _ ⟨i, rfl⟩⟩
  rintro d ⟨lo, rfl⟩
  refine s_setQ (fun d => ∃ i : Int, d = .int i) (fun K hK => ?_) ?_
  · simp
    exact ⟨b, 4, rfl, hb, ⟨by decide, by decide⟩, fun n _ _ => hK _ ⟨_, rfl⟩⟩
  rintro d ⟨hi, rfl⟩
  refine s_setQ (fun d => ∃ xs, d = .lst xs ∧ Gs 4 7 xs) (fun K hK => ?_) ?_
  · simp
    refine ⟨b, rfl, hb, fun z1 l1 k1 => ⟨b, rfl, hb, fun z2 l2 k2 => ⟨b, rfl, hb, fun x hx => hK _ ⟨_, rfl, Nat.le_refl 7, fun y hy => ?_⟩⟩⟩⟩
    simp only [List.mem_cons, List.not_mem_nil, or_false] at hy
    rcases hy with rfl | rfl | rfl | rfl | rfl | rfl | rfl
    · simp [gd, k1]; omega
    · simp [gd, k2]; omega
    · exact gd_mono hx
    all_goals rfl
  rintro d ⟨some0, rfl, hs0⟩
  refine s_setQ (fun d => ∃ xs, d = .lst xs ∧ Gs 3 4 xs) (fun K hK => ?_) ?_
  · simp only [dLc, dRng1, dCons, dC, dNil]
    refine ⟨by decide, ?_⟩
    refine compi_any (P := fun d => ∃ i : Int, d = .int i) _ _ _ (fun x _ Q hQ => ?_) (by simp [rngD]) (fun ds hl hp => hK _ ⟨_, rfl, ?_, ints_gd 3 (by simpa using hp)⟩)
    · simp [wipeD]
      exact ⟨b, rfl, hb, fun i => hQ _ ⟨i, rfl⟩⟩
    · rw [rngD_len] at hl; simp at hl ⊢; omega
  rintro d ⟨items, rfl, hit⟩
  refine s_setQ (fun d => ∃ i : Int, d = .int i) (fun K hK => ?_) ?_
  · simp
    exact ⟨b, 4, rfl, hb, ⟨by decide, by decide⟩, fun n _ _ => hK _ ⟨_, rfl⟩⟩
  rintro d ⟨spot, rfl⟩
  refine s_setQ (fun d => ∃ xs, d = .lst xs ∧ Gs 3 9 xs) (fun K hK => ?_) ?_
  · simp
    refine ⟨b, rfl, hb, fun x hx => ?_⟩
    have g1 := hit.cut none (some spot)
    have g2 := hit.cut (some (spot + 1)) none
    have gx : Gs 3 1 [x] := ⟨Nat.le_refl 1, fun y hy => by simp at hy; rw [hy]; exact hx⟩
    have := (g1.app gx).app g2
    refine ⟨by have := g1.1; omega, ?_, hK _ ⟨_, rfl, by simpa using this⟩⟩
    have h1 := g1.1
    have h2 := g2.1
    omega
  rintro d ⟨bent, rfl, hbe⟩
  refine s_forP (fun ds M1 => M1 = M ∧ ∃ r, ds = [.lst items, .lst r, .lst bent] ∧ Gs 3 4 r) (fun K hK => ?_) ?_
  · simp only [dIt, dLst, dCons, dOp, dVar, dCall, dC, dNil, dLc, dRng1, List.set, List.getElem?_cons_succ, List.getElem?_cons_zero]
    refine ⟨b, 9, rfl, hb, ⟨by decide, by decide⟩, fun n _ _ => ⟨by simp, by decide, ?_⟩⟩
    refine compi_any (P := fun d => ∃ i : Int, d = .int i) _ _ _ (fun x _ Q hQ => ?_) (by simp [rngD]) (fun ds hl hp => ?_)
    · simp [wipeD]
      exact ⟨b, 6, rfl, hb, ⟨by decide, by decide⟩, fun i _ _ => hQ _ ⟨i, rfl⟩⟩
    · rw [rngD_len] at hl
      have hl' : ds.length = 3 := by simpa using hl
      simp
      refine ⟨by omega, hK _ _ ⟨rfl, _, rfl, ?_, ?_⟩⟩
      · simp [hl']
      · intro d hd
        rcases List.mem_cons.mp hd with rfl | hd
        · rfl
        · exact ints_gd 3 hp d hd
  rintro ds M1 ⟨rfl, r2, rfl, hr2⟩
  have row : ∀ (some1 r : List D) (rest : List D) (m : Nat) (nx' : DEnv → Mu → Prop) (bk ct : DEnv → Mu → Prop) (o10 : Option D), Gs 4 m some1 → m ≤ 100 → Gs 3 10 r →
      (∀ o10', fori (gNm 10) t_law_b1 rest { nx := nx', rt := Q, bk := bk, ct := ct } [o0, some (.ref b), o2, some (.int lo), some (.int hi), some (.lst (some1 ++ six r)), some (.lst items), o7, some (.int spot), some (.lst bent), o10', o11, o12, o13] M1) →
      fori (gNm 10) t_law_b1 (.lst r :: rest) { nx := nx', rt := Q, bk := bk, ct := ct } [o0, some (.ref b), o2, some (.int lo), some (.int hi), some (.lst some1), some (.lst items), o7, some (.int spot), some (.lst bent), o10, o11, o12, o13] M1 := by
    intro some1 r rest m nx' bk ct o10 hs hm hr h
    refine x_cons ?_
    unfold t_law_b1
    refine x_set (v := .lst (some1 ++ six r)) (fun K hK => ?_) (h _)
    simp
    have := hs.1
    exact ⟨by omega, hK⟩
  refine row some0 items _ 7 _ _ _ o10 hs0 (by decide) ⟨by have := hit.1; omega, hit.2⟩ fun o10 => ?_
  have g1 := hs0.app (six_gd (r := items) ⟨by have := hit.1; omega, hit.2⟩)
  refine row _ r2 _ 13 _ _ _ o10 g1 (by decide) ⟨by have := hr2.1; omega, hr2.2⟩ fun o10 => ?_
  have g2 := g1.app (six_gd (r := r2) ⟨by have := hr2.1; omega, hr2.2⟩)
  refine row _ bent _ 19 _ _ _ o10 g2 (by decide) ⟨by have := hbe.1; omega, hbe.2⟩ fun o10 => ?_
  have g3 := g2.app (six_gd (r := bent) ⟨by have := hbe.1; omega, hbe.2⟩)
  refine x_nil ?_
  refine s_for (ds := (some0 ++ six items) ++ six r2 ++ six bent) (fun K hK => by simpa using hK) ?_
  refine things (fun o11 => ?_) _ _ g3.2
  refine s_setQ (fun d => ∃ n : Nat, d = .int n ∧ n < 10 ^ 9) (fun K hK => ?_) ?_
  · simp
    refine ⟨⟨by decide, by decide, by decide⟩, b, 10 ^ 9, rfl, hb, ⟨by decide, by decide⟩, fun n h0 h1 => hK _ ⟨n.toNat, ?_, ?_⟩⟩
    · rw [Int.toNat_of_nonneg h0]
    · omega
  rintro d ⟨n, rfl, hn⟩
  refine s_if (b := false) (fun K hK => ?_) (fun h => by cases h) (fun _ => ?_)
  · simp
    have e9 : (1000000000 + (n : Int)) = ((1000000000 + n : Nat) : Int) := by omega
    rw [e9]
    have l1 : n.log2 < 1920 := by have := log_ok (n := (n : Int)) (by omega) (by omega); simpa using this
    have l2 : (((1000000000 + n : Nat) : Int)).natAbs.log2 < 1920 := log_ok (by omega) (by omega)
    have g1 : gd 5 (.str (tx n)) = true := tx_gd (by omega)
    have g3 : gd 5 (.str (tx (1000000000 + n))) = true := tx_gd (by omega)
    have z0 : ("0" : Str).length = 1 := by decide +kernel
    have o0 : PyData.strOk "0" = true := by decide +kernel
    obtain ⟨s1, s2⟩ := gd_str g1
    have g2 : gd 5 (.str ("0" ++ tx n)) = true := by
      have h1 := strOk_app o0 s1
      have h2 := tx_len (n := n) (by omega)
      simp only [gd, h1, Bool.true_and, decide_eq_true_eq]
      rw [app_len, z0]; omega
    refine ⟨l1, _, rfl, g1, l1, ?_, _, rfl, g2, ⟨by decide, by decide, by decide⟩, l2, _, rfl, g3, ?_⟩
    · show ("0" : Str).length + (tx n).length ≤ 100000
      have h2 := tx_len (n := n) (by omega)
      rw [z0]; omega
    · show sp__law_same [.lst [numIn (.str (tx n)), numIn (.str ("0" ++ tx n)), numIn (.str (tx (1000000000 + n)))], _] M1 _
      rw [num_of_text hn, num_of_zero, num_of_long (by omega)]
      refine ⟨_, _, rfl, rfl, rfl, fun k hk => ?_⟩
      have : k = true := hk.mpr rfl
      subst this
      exact hK
  · refine s_next ?_
    refine x_if (b := false) (fun K hK => ?_) (fun h => by cases h) (fun _ => ?_)
    · simp
      refine ⟨.int n, lo, hi, rfl, rfl, .int n, lo, hi, rfl, rfl, ?_⟩
      simpa using hK
    · exact s_next (hnx _ _ _ _ _ _ _ _ _ _ _)
theorem pure_law : ∀ ds M Q, sp_law ds M Q → ds.length = (["_law_script"] : List Str).length ∧ t_law { nx := fun _ M' => Q .non M', rt := Q } (startD ["_law_script", "_law_bag_here", "_law_turn", "_law_low", "_law_high", "_law_some", "_law_items", "_law_k", "_law_spot", "_law_bent", "_law_row_z", "_law_thing", "_law_number", "_law_found"] ds) M := by
  rintro ds M Q ⟨ns, rfl, hl, rfl, q⟩
  refine ⟨rfl, ?_⟩
  unfold t_law
  refine s_setP (fun d M1 => ∃ b, d = .ref b ∧ M1 b = some .bag) (fun K hK => ?_) ?_
  · simp
    exact ⟨ns, rfl, hl, fun b _ => hK _ _ ⟨b, rfl, setM_same⟩⟩
  rintro d M1 ⟨b, rfl, hb⟩
  refine s_for (ds := rngD 0 5) (fun K hK => by simpa using hK) ?_
  have loop : ∀ (xs : List D) (nx' : DEnv → Mu → Prop) (bk ct : DEnv → Mu → Prop), (∀ o2 o3 o4 o5 o6 o7 o8 o9 o10 o11 o12 o13, nx' [some (.scr ns), some (.ref b), o2, o3, o4, o5, o6, o7, o8, o9, o10, o11, o12, o13] M1) →
      ∀ o2 o3 o4 o5 o6 o7 o8 o9 o10 o11 o12 o13 : Option D, fori (gNm 2) t_law_b3 xs { nx := nx', rt := Q, bk := bk, ct := ct } [some (.scr ns), some (.ref b), o2, o3, o4, o5, o6, o7, o8, o9, o10, o11, o12, o13] M1 := by
    intro xs nx' bk ct h
    induction xs with
    | nil => intros; exact x_nil (h _ _ _ _ _ _ _ _ _ _ _ _)
    | cons x xs ih =>
      intros
      exact x_cons (turn hb (fun _ _ _ _ _ _ _ _ _ _ _ => ih _ _ _ _ _ _ _ _ _ _ _ _) _ _ _ _ _ _ _ _ _ _ _)
  refine loop _ _ _ _ (fun o2 o3 o4 o5 o6 o7 o8 o9 o10 o11 o12 o13 => ?_) _ _ _ _ _ _ _ _ _ _ _ _
  refine s_set (v := .lst [.bl true, .bl true, .bl true, .int 0, .int 999999999]) (fun K hK => ?_) ?_
  · simp
    refine ⟨.str "a", rfl, by decide +kernel, .tup [.int 0, .int 5], rfl, rfl, .tup [.int 8, .int 5, .int 5], rfl, rfl, .str "0", rfl, by decide +kernel, .str "999999999", rfl, by decide +kernel, ?_⟩
    have e1 : isName (.str "a") = true := by decide +kernel
    have e2 : isTup (.tup [.int 0, .int 5]) [5, 5] = true := by decide +kernel
    have e3 : isTup (.tup [.int 8, .int 5, .int 5]) [8, 5, 5] = true := by decide +kernel
    have e4 : numIn (.str "0") = .int 0 := num_of_text (n := 0) (by decide)
    have e5 : numIn (.str "999999999") = .int 999999999 := num_of_text (n := 999999999) (by decide)
    rw [e1, e2, e3, e4, e5]
    exact hK
  refine x_ret (v := .bl true) (fun K hK => ?_) (q _)
  simp
  refine ⟨_, _, rfl, rfl, rfl, fun k hk => ?_⟩
  have : k = true := hk.mpr rfl
  subst this
  have e1 : numIn (.str "-0") = .non := by
    simp only [numIn]
    rw [show (("-0" : Str).cps.toList.all figure) = false by decide +kernel]
    simp
  have e2 : numIn (.str "00") = .non := by
    simp only [numIn]
    rw [show lead "00" = true by decide +kernel]
    simp
  refine ⟨.str "-0", rfl, by decide +kernel, ?_⟩
  rw [e1]
  refine ⟨.str "00", rfl, by decide +kernel, ?_⟩
  rw [e2]
  exact hK
end K01
/-! Each def keeps its promise: the walks. Printed by a program of mine. -/
namespace K01
open PySem L2 DL
section
variable {P : Program} {w : World} {K : PySem.W.Frag} {mg : Str → Option Value} {base : Heap}
theorem dv_is_number (G : Gb mg) {f : Addr} (cdv : Value) (A : Around) (outer : List Env) (sh : Shared) (H : Hp) (E : XK) (c : Wd) (hr : Room 0 (A.deeper (PyProof.Rows.envOfC "is_number" (defScope s_is_number) sh.heap.objs.size f cdv))) :
    PDSs c (cxOf CX0 P w K mg base ["value", "least", "most"] "is_number" (defScope s_is_number) f cdv A outer sh H E).nox (defBody s_is_number) t_is_number :=
    (pdss_one (pds_ret (pd_and (pd_callB isi_D rfl G.b_isinstance (by decide +kernel) (pda_cons (pd_var 0) (pda_cons (pd_ty G.b_int (by decide +kernel)) pda_nil))) (pd_and (pd_not (pd_callB isi_D rfl G.b_isinstance (by decide +kernel) (pda_cons (pd_var 0) (pda_cons (pd_ty G.b_bool (by decide +kernel)) pda_nil)))) (pd_one (pd_chain opD_le opD_le (pd_var 1) (pd_var 0) (pd_var 2)))))))
theorem ok_is_number (G : Gb mg) {f : Addr} {fd : FuncData} (F : FunD K "is_number" "is_number" (defArgs s_is_number) (defBody s_is_number) (defScope s_is_number) [] [] f fd) : FnOk P w K mg base CX0 1 f fd ["value", "least", "most"] (up0 K sp_is_number) :=
  fn0 F sc_is_number (fun cdv A outer sh H E c hr => dv_is_number G cdv A outer sh H E c hr) pure_is_number
theorem dv_is_name (G : Gb mg) {f : Addr} (cdv : Value) (A : Around) (outer : List Env) (sh : Shared) (H : Hp) (E : XK) (c : Wd) (hr : Room 0 (A.deeper (PyProof.Rows.envOfC "is_name" (defScope s_is_name) sh.heap.objs.size f cdv))) :
    PDSs c (cxOf CX0 P w K mg base ["value", "letter"] "is_name" (defScope s_is_name) f cdv A outer sh H E).nox (defBody s_is_name) t_is_name :=
    (pdss_cons (pds_if (PW.pt (pdw_or (pdt_not (pdt_val (pd_callB isi_D rfl G.b_isinstance (by decide +kernel) (pda_cons (pd_var 0) (pda_cons (pd_ty G.b_str (by decide +kernel)) pda_nil))))) (pdw_one (pdt_not (pdt_chain opD_le opD_le pd_int (pd_callB len_D rfl G.b_len PySem.boot_len (pda_cons (pd_var 0) pda_nil)) (pd_globI (G.c_MOST_LETTERS))))))) (pdss_one (pds_ret pd_bl)) pdss_nil)
      (pdss_one (pds_ret (pd_callB (all_D rfl) rfl G.b_all (by decide +kernel) (pda_cons (pd_lc (own := [("letter", 1)]) (us := [1]) rfl sc_is_name.nd (pdi_any (pd_var 0)) (blkOk_by (N := ["value", "letter"]) (sc := defScope s_is_name) (own := [("letter", 1)]) (by decide +kernel)) (fun _ _ _ _ _ => (pdg_name (i := 1) sc_is_name.nd)) (fun _ _ _ _ _ => pdts_nil) (fun _ _ _ _ _ => (pd_cmp opD_in (pd_var 1) (pd_globS (G.c_LETTERS))))) pda_nil)))))
theorem ok_is_name (G : Gb mg) {f : Addr} {fd : FuncData} (F : FunD K "is_name" "is_name" (defArgs s_is_name) (defBody s_is_name) (defScope s_is_name) [] [] f fd) : FnOk P w K mg base CX0 1 f fd ["value"] (up0 K sp_is_name) :=
  fn0 F sc_is_name (fun cdv A outer sh H E c hr => dv_is_name G cdv A outer sh H E c hr) pure_is_name
theorem dv_is_cell (G : Gb mg) (F_is_number : Fnd P w K mg base 1 "is_number" s_is_number ["value", "least", "most"] sp_is_number) {f : Addr} (cdv : Value) (A : Around) (outer : List Env) (sh : Shared) (H : Hp) (E : XK) (c : Wd) (hr : Room 1 (A.deeper (PyProof.Rows.envOfC "is_cell" (defScope s_is_cell) sh.heap.objs.size f cdv))) :
    PDSs c (cxOf CX0 P w K mg base ["value"] "is_cell" (defScope s_is_cell) f cdv A outer sh H E).nox (defBody s_is_cell) t_is_cell :=
    (pdss_cons (pds_if (PW.pt (pdw_or (pdt_not (pdt_val (pd_callB isi_D rfl G.b_isinstance (by decide +kernel) (pda_cons (pd_var 0) (pda_cons (pd_ty G.b_tuple (by decide +kernel)) pda_nil))))) (pdw_one (pdt_cmp (ne_flat hr.units) (pd_callB len_D rfl G.b_len PySem.boot_len (pda_cons (pd_var 0) pda_nil)) pd_int)))) (pdss_one (pds_ret pd_bl)) pdss_nil)
      (pdss_one (pds_ret (pd_and (pd_call F_is_number (hr.mono (by decide)) (pda_cons (pd_ix (pd_var 0) pd_int) (pda_cons pd_int (pda_cons (pd_globI (G.c_LAST_INDEX)) pda_nil)))) (pd_one (pd_call F_is_number (hr.mono (by decide)) (pda_cons (pd_ix (pd_var 0) pd_int) (pda_cons pd_int (pda_cons (pd_globI (G.c_LAST_INDEX)) pda_nil)))))))))
theorem ok_is_cell (G : Gb mg) (F_is_number : Fnd P w K mg base 1 "is_number" s_is_number ["value", "least", "most"] sp_is_number) {f : Addr} {fd : FuncData} (F : FunD K "is_cell" "is_cell" (defArgs s_is_cell) (defBody s_is_cell) (defScope s_is_cell) [] [] f fd) : FnOk P w K mg base CX0 2 f fd ["value"] (up0 K sp_is_cell) :=
  fn0 F sc_is_cell (fun cdv A outer sh H E c hr => dv_is_cell G F_is_number cdv A outer sh H E c hr) pure_is_cell
theorem dv_is_place (G : Gb mg) (F_is_cell : Fnd P w K mg base 2 "is_cell" s_is_cell ["value"] sp_is_cell) (F_is_number : Fnd P w K mg base 1 "is_number" s_is_number ["value", "least", "most"] sp_is_number) {f : Addr} (cdv : Value) (A : Around) (outer : List Env) (sh : Shared) (H : Hp) (E : XK) (c : Wd) (hr : Room 2 (A.deeper (PyProof.Rows.envOfC "is_place" (defScope s_is_place) sh.heap.objs.size f cdv))) :
    PDSs c (cxOf CX0 P w K mg base ["value"] "is_place" (defScope s_is_place) f cdv A outer sh H E).nox (defBody s_is_place) t_is_place :=
    (pdss_cons (pds_if (PW.pt (pdw_or (pdt_not (pdt_val (pd_callB isi_D rfl G.b_isinstance (by decide +kernel) (pda_cons (pd_var 0) (pda_cons (pd_ty G.b_tuple (by decide +kernel)) pda_nil))))) (pdw_one (pdt_cmp (ne_flat hr.units) (pd_callB len_D rfl G.b_len PySem.boot_len (pda_cons (pd_var 0) pda_nil)) pd_int)))) (pdss_one (pds_ret pd_bl)) pdss_nil)
      (pdss_one (pds_ret (pd_and (pd_call F_is_number (hr.mono (by decide)) (pda_cons (pd_ix (pd_var 0) pd_int) (pda_cons pd_int (pda_cons (pd_globI (G.c_LAST_HOUR)) pda_nil)))) (pd_one (pd_call F_is_cell (hr.mono (by decide)) (pda_cons (pd_slice (pd_var 0) (pdo_some pd_int) pdo_none) pda_nil)))))))
theorem ok_is_place (G : Gb mg) (F_is_cell : Fnd P w K mg base 2 "is_cell" s_is_cell ["value"] sp_is_cell) (F_is_number : Fnd P w K mg base 1 "is_number" s_is_number ["value", "least", "most"] sp_is_number) {f : Addr} {fd : FuncData} (F : FunD K "is_place" "is_place" (defArgs s_is_place) (defBody s_is_place) (defScope s_is_place) [] [] f fd) : FnOk P w K mg base CX0 3 f fd ["value"] (up0 K sp_is_place) :=
  fn0 F sc_is_place (fun cdv A outer sh H E c hr => dv_is_place G F_is_cell F_is_number cdv A outer sh H E c hr) pure_is_place
theorem dv_number_in (G : Gb mg) {f : Addr} (cdv : Value) (A : Around) (outer : List Env) (sh : Shared) (H : Hp) (E : XK) (c : Wd) (hr : Room 0 (A.deeper (PyProof.Rows.envOfC "number_in" (defScope s_number_in) sh.heap.objs.size f cdv))) :
    PDSs c (cxOf CX0 P w K mg base ["text", "digit"] "number_in" (defScope s_number_in) f cdv A outer sh H E).nox (defBody s_number_in) t_number_in :=
    (pdss_cons (pds_if (PW.pt (pdw_or (pdt_not (pdt_val (pd_callB isi_D rfl G.b_isinstance (by decide +kernel) (pda_cons (pd_var 0) (pda_cons (pd_ty G.b_str (by decide +kernel)) pda_nil))))) (pdw_one (pdt_not (pdt_chain opD_le opD_le pd_int (pd_callB len_D rfl G.b_len PySem.boot_len (pda_cons (pd_var 0) pda_nil)) (pd_globI (G.c_MOST_DIGITS))))))) (pdss_one (pds_ret pd_non)) pdss_nil)
      (pdss_cons (pds_if (PW.pt (pdw_or (pdt_not (pdt_val (pd_callB (all_D rfl) rfl G.b_all (by decide +kernel) (pda_cons (pd_lc (own := [("digit", 1)]) (us := [1]) rfl sc_number_in.nd (pdi_any (pd_var 0)) (blkOk_by (N := ["text", "digit"]) (sc := defScope s_number_in) (own := [("digit", 1)]) (by decide +kernel)) (fun _ _ _ _ _ => (pdg_name (i := 1) sc_number_in.nd)) (fun _ _ _ _ _ => pdts_nil) (fun _ _ _ _ _ => (pd_cmp opD_in (pd_var 1) (pd_globS (G.c_DIGITS))))) pda_nil)))) (pdw_one (PW.pt (pdw_and (pdt_cmp (eq_flat hr.units) (pd_ix (pd_var 0) pd_int) pd_str) (pdw_one (pdt_cmp (ne_flat hr.units) (pd_var 0) pd_str))))))) (pdss_one (pds_ret pd_non)) pdss_nil)
      (pdss_one (pds_ret (pd_callTy int_D rfl G.b_int (by decide +kernel) (pda_cons (pd_var 0) pda_nil))))))
theorem ok_number_in (G : Gb mg) {f : Addr} {fd : FuncData} (F : FunD K "number_in" "number_in" (defArgs s_number_in) (defBody s_number_in) (defScope s_number_in) [] [] f fd) : FnOk P w K mg base CX0 1 f fd ["text"] (up0 K sp_number_in) :=
  fn0 F sc_number_in (fun cdv A outer sh H E c hr => dv_number_in G cdv A outer sh H E c hr) pure_number_in
theorem dv__law_bag (G : Gb mg) {f : Addr} (cdv : Value) (A : Around) (outer : List Env) (sh : Shared) (H : Hp) (E : XK) (c : Wd) (hr : Room 0 (A.deeper (PyProof.Rows.envOfC "_law_bag" (defScope s__law_bag) sh.heap.objs.size f cdv))) :
    PDSs c (cxOf CX0 P w K mg base ["_law_script", "_law_cells_z", "_law_cell_z", "_law_mark"] "_law_bag" (defScope s__law_bag) f cdv A outer sh H E).nox (defBody s__law_bag) t__law_bag :=
    (pdss_cons (pds_setLc (i := 1) (own := [("_law_cell_z", 2)]) (us := [2]) rfl sc__law_bag.nd (pdi_any (pd_slice (pd_var 0) pdo_none (pdo_some pd_int))) (blkOk_by (N := ["_law_script", "_law_cells_z", "_law_cell_z", "_law_mark"]) (sc := defScope s__law_bag) (own := [("_law_cell_z", 2)]) (by decide +kernel)) (fun _ _ _ _ _ => (pdg_name (i := 2) sc__law_bag.nd)) (fun _ _ _ _ _ => pdts_nil) (fun _ _ _ _ _ => (pd_callTy int_D rfl G.b_int (by decide +kernel) (pda_cons (pd_var 2) pda_nil))) (sw_true rfl rfl rfl (by decide +kernel)))
      (pdss_cons (pds_set (i := 3) sc__law_bag.nd (pd_op opD_add pd_int (pd_op opD_mul pd_int (pd_callB len_D rfl G.b_len PySem.boot_len (pda_cons (pd_var 1) pda_nil)))))
      (pdss_cons (pds_for (vs := [2]) PassesOwn.never rfl (pdi_any (pd_var 1)) (pdg_name (i := 2) sc__law_bag.nd) (pdss_one (pds_set (i := 3) sc__law_bag.nd (pd_op opD_mod (pd_callTy int_D rfl G.b_int (by decide +kernel) (pda_cons (pd_op opD_add (pd_op opD_mul (pd_var 3) pd_int) (pd_var 2)) pda_nil)) pd_int))))
      (pdss_one (pds_ret (pd_bag (pda_cons (pd_var 1) (pda_cons pd_int (pda_cons pd_int (pda_cons (pd_var 3) pda_nil))))))))))
theorem ok__law_bag (G : Gb mg) {f : Addr} {fd : FuncData} (F : FunD K "_law_bag" "_law_bag" (defArgs s__law_bag) (defBody s__law_bag) (defScope s__law_bag) [] [] f fd) : FnOk P w K mg base CX0 1 f fd ["_law_script"] (up0 K sp__law_bag) :=
  fn0 F sc__law_bag (fun cdv A outer sh H E c hr => dv__law_bag G cdv A outer sh H E c hr) pure__law_bag
theorem dv__law_draw (G : Gb mg) {f : Addr} (cdv : Value) (A : Around) (outer : List Env) (sh : Shared) (H : Hp) (E : XK) (c : Wd) (hr : Room 0 (A.deeper (PyProof.Rows.envOfC "_law_draw" (defScope s__law_draw) sh.heap.objs.size f cdv))) :
    PDSs c (cxOf CX0 P w K mg base ["_law_bag_here", "_law_many", "_law_cell_z", "_law_mixed", "_law_second", "_law_digit"] "_law_draw" (defScope s__law_draw) f cdv A outer sh H E).nox (defBody s__law_draw) t__law_draw :=
    (pdss_cons (pds_if (pdt_cmp opD_lt (pd_ix (pd_var 0) pd_int) pd_int) (pdss_cons (pds_asg (vs := []) (pd_op opD_add (pd_ix (pd_var 0) pd_int) pd_int) (pdg_ix (pd_var 0) pd_int))
      (pdss_cons (pds_set (i := 2) sc__law_draw.nd (pd_op opD_add (pd_ix (pd_var 0) pd_int) (pd_op opD_mul (pd_ix (pd_var 0) pd_int) pd_int)))
      (pdss_cons (pds_if (pdt_cmp opD_le (pd_ix (pd_var 0) pd_int) (pd_callB len_D rfl G.b_len PySem.boot_len (pda_cons (pd_ix (pd_var 0) pd_int) pda_nil))) (pdss_one (pds_set (i := 2) sc__law_draw.nd (pd_ix (pd_ix (pd_var 0) pd_int) (pd_op opD_sub (pd_ix (pd_var 0) pd_int) pd_int)))) pdss_nil)
      (pdss_cons (pds_if (PW.pt (pdw_or (pdt_cmp opD_gt (pd_ix (pd_var 0) pd_int) (pd_callB len_D rfl G.b_len PySem.boot_len (pda_cons (pd_ix (pd_var 0) pd_int) pda_nil))) (pdw_one (pdt_cmp opD_lt (pd_var 2) (pd_op opD_pow pd_int pd_int))))) (pdss_cons (pds_set (i := 3) sc__law_draw.nd (pd_op opD_mod (pd_callTy int_D rfl G.b_int (by decide +kernel) (pda_cons (pd_op opD_add (pd_op opD_add (pd_op opD_mul (pd_var 2) pd_int) (pd_op opD_mul (pd_ix (pd_var 0) pd_int) pd_int)) (pd_ix (pd_var 0) pd_int)) pda_nil)) pd_int))
      (pdss_cons (pds_set (i := 4) sc__law_draw.nd (pd_op opD_mod (pd_callTy int_D rfl G.b_int (by decide +kernel) (pda_cons (pd_op opD_add (pd_op opD_mul (pd_var 3) (pd_var 3)) (pd_op opD_mul (pd_ix (pd_var 0) pd_int) pd_int)) pda_nil)) pd_int))
      (pdss_one (pds_ret (pd_op opD_mod (pd_op opD_fdiv (pd_op opD_mod (pd_callTy int_D rfl G.b_int (by decide +kernel) (pda_cons (pd_op opD_add (pd_op opD_mul (pd_var 4) pd_int) (pd_var 3)) pda_nil)) pd_int) pd_int) (pd_var 1)))))) pdss_nil)
      (pdss_one (pds_asg (vs := []) (pd_var 2) (pdg_ix (pd_var 0) pd_int))))))) pdss_nil)
      (pdss_cons (pds_set (i := 5) sc__law_draw.nd (pd_op opD_mod (pd_callTy int_D rfl G.b_int (by decide +kernel) (pda_cons (pd_ix (pd_var 0) pd_int) pda_nil)) (pd_var 1)))
      (pdss_cons (pds_asg (vs := []) (pd_op opD_fdiv (pd_callTy int_D rfl G.b_int (by decide +kernel) (pda_cons (pd_ix (pd_var 0) pd_int) pda_nil)) (pd_var 1)) (pdg_ix (pd_var 0) pd_int))
      (pdss_one (pds_ret (pd_var 5))))))
theorem ok__law_draw (G : Gb mg) {f : Addr} {fd : FuncData} (F : FunD K "_law_draw" "_law_draw" (defArgs s__law_draw) (defBody s__law_draw) (defScope s__law_draw) [] [] f fd) : FnOk P w K mg base CX0 1 f fd ["_law_bag_here", "_law_many"] (up0 K sp0__law_draw) :=
  fn0 F sc__law_draw (fun cdv A outer sh H E c hr => dv__law_draw G cdv A outer sh H E c hr) pure__law_draw
theorem dv__law_pick (G : Gb mg) (F__law_draw : Fnd P w K mg base 1 "_law_draw" s__law_draw ["_law_bag_here", "_law_many"] sp__law_draw) {f : Addr} (cdv : Value) (A : Around) (outer : List Env) (sh : Shared) (H : Hp) (E : XK) (c : Wd) (hr : Room 1 (A.deeper (PyProof.Rows.envOfC "_law_pick" (defScope s__law_pick) sh.heap.objs.size f cdv))) :
    PDSs c (cxOf CX0 P w K mg base ["_law_bag_here", "_law_some"] "_law_pick" (defScope s__law_pick) f cdv A outer sh H E).nox (defBody s__law_pick) t__law_pick :=
    (pdss_one (pds_ret (pd_ix (pd_var 1) (pd_call F__law_draw (hr.mono (by decide)) (pda_cons (pd_var 0) (pda_cons (pd_callB len_D rfl G.b_len PySem.boot_len (pda_cons (pd_var 1) pda_nil)) pda_nil))))))
theorem ok__law_pick (G : Gb mg) (F__law_draw : Fnd P w K mg base 1 "_law_draw" s__law_draw ["_law_bag_here", "_law_many"] sp__law_draw) {f : Addr} {fd : FuncData} (F : FunD K "_law_pick" "_law_pick" (defArgs s__law_pick) (defBody s__law_pick) (defScope s__law_pick) [] [] f fd) : FnOk P w K mg base CX0 2 f fd ["_law_bag_here", "_law_some"] (up0 K sp__law_pick) :=
  fn0 F sc__law_pick (fun cdv A outer sh H E c hr => dv__law_pick G F__law_draw cdv A outer sh H E c hr) pure__law_pick
theorem dv__law_same (G : Gb mg) {sp__law_same : DSp} {k : Nat} (F__law_same : Fnd P w K mg base k "_law_same" s__law_same ["_law_found", "_law_due"] sp__law_same) {f : Addr} (cdv : Value) (A : Around) (outer : List Env) (sh : Shared) (H : Hp) (E : XK) (c : Wd) (hr : Room k (A.deeper (PyProof.Rows.envOfC "_law_same" (defScope s__law_same) sh.heap.objs.size f cdv))) :
    PDSs c (cxOf CX0 P w K mg base ["_law_found", "_law_due", "_law_one", "_law_two"] "_law_same" (defScope s__law_same) f cdv A outer sh H E).nox (defBody s__law_same) (t__law_same sp__law_same) :=
    (pdss_cons (pds_if (PW.pt (pdw_or (pdt_cmp opD_is (pd_var 1) pd_non) (pdw_one (pdt_cmp opD_is (pd_var 0) pd_non)))) (pdss_one (pds_ret (pd_and (pd_cmp opD_is (pd_var 1) pd_non) (pd_one (pd_cmp opD_is (pd_var 0) pd_non))))) pdss_nil)
      (pdss_cons (pds_if (PW.pt (pdw_or (pdt_val (pd_callB isi_D rfl G.b_isinstance (by decide +kernel) (pda_cons (pd_var 1) (pda_cons (pd_tup (pda_cons (pd_ty G.b_list (by decide +kernel)) (pda_cons (pd_ty G.b_tuple (by decide +kernel)) pda_nil))) pda_nil)))) (pdw_one (pdt_val (pd_callB isi_D rfl G.b_isinstance (by decide +kernel) (pda_cons (pd_var 0) (pda_cons (pd_tup (pda_cons (pd_ty G.b_list (by decide +kernel)) (pda_cons (pd_ty G.b_tuple (by decide +kernel)) pda_nil))) pda_nil))))))) (pdss_cons (pds_if (PW.pt (pdw_or (pdt_cmp (ne_flat hr.units) (pd_callB isi_D rfl G.b_isinstance (by decide +kernel) (pda_cons (pd_var 1) (pda_cons (pd_ty G.b_list (by decide +kernel)) pda_nil))) (pd_callB isi_D rfl G.b_isinstance (by decide +kernel) (pda_cons (pd_var 0) (pda_cons (pd_ty G.b_list (by decide +kernel)) pda_nil)))) (pdw_one (pdt_cmp (ne_flat hr.units) (pd_callB isi_D rfl G.b_isinstance (by decide +kernel) (pda_cons (pd_var 1) (pda_cons (pd_ty G.b_tuple (by decide +kernel)) pda_nil))) (pd_callB isi_D rfl G.b_isinstance (by decide +kernel) (pda_cons (pd_var 0) (pda_cons (pd_ty G.b_tuple (by decide +kernel)) pda_nil))))))) (pdss_one (pds_ret pd_bl)) pdss_nil)
      (pdss_one (pds_ret (pd_and (pd_cmp (eq_flat hr.units) (pd_callB len_D rfl G.b_len PySem.boot_len (pda_cons (pd_var 0) pda_nil)) (pd_callB len_D rfl G.b_len PySem.boot_len (pda_cons (pd_var 1) pda_nil))) (pd_one (pd_callB (all_D rfl) rfl G.b_all (by decide +kernel) (pda_cons (pd_lc (own := [("_law_one", 2), ("_law_two", 3)]) (us := [2, 3]) rfl sc__law_same.nd (pdi_zip G.b_zip (pda_cons (pd_var 0) (pda_cons (pd_var 1) pda_nil))) (blkOk_by (N := ["_law_found", "_law_due", "_law_one", "_law_two"]) (sc := defScope s__law_same) (own := [("_law_one", 2), ("_law_two", 3)]) (by decide +kernel)) (fun _ _ _ _ _ => (pdg_tup rfl (pdgs_cons (pdg_name (i := 2) sc__law_same.nd) (pdgs_cons (pdg_name (i := 3) sc__law_same.nd) pdgs_nil)))) (fun _ _ _ _ _ => pdts_nil) (fun _ _ _ _ _ => (pd_call F__law_same hr (pda_cons (pd_var 2) (pda_cons (pd_var 3) pda_nil))))) pda_nil))))))) pdss_nil)
      (pdss_cons (pds_if (PW.pt (pdw_or (pdt_cmp (ne_flat hr.units) (pd_callB isi_D rfl G.b_isinstance (by decide +kernel) (pda_cons (pd_var 1) (pda_cons (pd_ty G.b_bool (by decide +kernel)) pda_nil))) (pd_callB isi_D rfl G.b_isinstance (by decide +kernel) (pda_cons (pd_var 0) (pda_cons (pd_ty G.b_bool (by decide +kernel)) pda_nil)))) (pdw_one (pdt_cmp (ne_flat hr.units) (pd_callB isi_D rfl G.b_isinstance (by decide +kernel) (pda_cons (pd_var 1) (pda_cons (pd_ty G.b_str (by decide +kernel)) pda_nil))) (pd_callB isi_D rfl G.b_isinstance (by decide +kernel) (pda_cons (pd_var 0) (pda_cons (pd_ty G.b_str (by decide +kernel)) pda_nil))))))) (pdss_one (pds_ret pd_bl)) pdss_nil)
      (pdss_one (pds_ret (pd_and (pd_cmp (eq_flat hr.units) (pd_callB isi_D rfl G.b_isinstance (by decide +kernel) (pda_cons (pd_var 1) (pda_cons (pd_ty G.b_int (by decide +kernel)) pda_nil))) (pd_callB isi_D rfl G.b_isinstance (by decide +kernel) (pda_cons (pd_var 0) (pda_cons (pd_ty G.b_int (by decide +kernel)) pda_nil)))) (pd_one (pd_cmp (eq_flat hr.units) (pd_var 0) (pd_var 1)))))))))
theorem same_ok (G : Gb mg) {f : Addr} {fd : FuncData} (F : FunD K "_law_same" "_law_same" (defArgs s__law_same) (defBody s__law_same) (defScope s__law_same) [] [] f fd) (hm : mg "_law_same" = some (.ref f)) (hb : Binds K fd ["_law_found", "_law_due"] []) : ∀ n : Nat, Fnd P w K mg base (n + 2) "_law_same" s__law_same ["_law_found", "_law_due"] (spSame n)
  | 0 => ⟨f, fd, F, fn0 F sc__law_same (fun cdv A outer sh H E c hr => dv__law_same (sp__law_same := spPrev 0) G (Fnd.no F hm hb) cdv A outer sh H E c hr) (pure__law_same 0), hm, hb⟩
  | n + 1 => ⟨f, fd, F, fn0 F sc__law_same (fun cdv A outer sh H E c hr => dv__law_same (sp__law_same := spPrev (n + 1)) G (same_ok G F hm hb n) cdv A outer sh H E c hr) (pure__law_same (n + 1)), hm, hb⟩
theorem dv__law_odd (G : Gb mg) (F__law_pick : Fnd P w K mg base 2 "_law_pick" s__law_pick ["_law_bag_here", "_law_some"] sp__law_pick) {f : Addr} (cdv : Value) (A : Around) (outer : List Env) (sh : Shared) (H : Hp) (E : XK) (c : Wd) (hr : Room 2 (A.deeper (PyProof.Rows.envOfC "_law_odd" (defScope s__law_odd) sh.heap.objs.size f cdv))) :
    PDSs c (cxOf CX0 P w K mg base ["_law_bag_here"] "_law_odd" (defScope s__law_odd) f cdv A outer sh H E).nox (defBody s__law_odd) t__law_odd :=
    (pdss_one (pds_ret (pd_call F__law_pick (hr.mono (by decide)) (pda_cons (pd_var 0) (pda_cons (pd_lst (pda_cons pd_non (pda_cons pd_bl (pda_cons pd_bl (pda_cons (pd_tup pda_nil) (pda_cons (pd_lst pda_nil) (pda_cons pd_str (pda_cons pd_str (pda_cons (pd_tup (pda_cons pd_bl (pda_cons pd_int pda_nil))) (pda_cons (pd_lst (pda_cons pd_int (pda_cons pd_int pda_nil))) (pda_cons (pd_tup (pda_cons pd_int (pda_cons pd_int (pda_cons pd_bl pda_nil)))) (pda_cons (pd_tup (pda_cons pd_str (pda_cons pd_int pda_nil))) (pda_cons (pd_tup (pda_cons (pd_tup (pda_cons pd_int (pda_cons pd_int pda_nil))) pda_nil)) (pda_cons (pd_tup (pda_cons pd_int (pda_cons pd_non pda_nil))) pda_nil)))))))))))))) pda_nil)))))
theorem ok__law_odd (G : Gb mg) (F__law_pick : Fnd P w K mg base 2 "_law_pick" s__law_pick ["_law_bag_here", "_law_some"] sp__law_pick) {f : Addr} {fd : FuncData} (F : FunD K "_law_odd" "_law_odd" (defArgs s__law_odd) (defBody s__law_odd) (defScope s__law_odd) [] [] f fd) : FnOk P w K mg base CX0 3 f fd ["_law_bag_here"] (up0 K sp__law_odd) :=
  fn0 F sc__law_odd (fun cdv A outer sh H E c hr => dv__law_odd G F__law_pick cdv A outer sh H E c hr) pure__law_odd
theorem dv__law_count (G : Gb mg) (F__law_draw : Fnd P w K mg base 1 "_law_draw" s__law_draw ["_law_bag_here", "_law_many"] sp__law_draw) (F__law_pick : Fnd P w K mg base 2 "_law_pick" s__law_pick ["_law_bag_here", "_law_some"] sp__law_pick) {f : Addr} (cdv : Value) (A : Around) (outer : List Env) (sh : Shared) (H : Hp) (E : XK) (c : Wd) (hr : Room 2 (A.deeper (PyProof.Rows.envOfC "_law_count" (defScope s__law_count) sh.heap.objs.size f cdv))) :
    PDSs c (cxOf CX0 P w K mg base ["_law_bag_here"] "_law_count" (defScope s__law_count) f cdv A outer sh H E).nox (defBody s__law_count) t__law_count :=
    (pdss_one (pds_ret (pd_call F__law_pick (hr.mono (by decide)) (pda_cons (pd_var 0) (pda_cons (pd_lst (pda_cons (pd_neg pd_int) (pda_cons pd_int (pda_cons pd_int (pda_cons pd_int (pda_cons pd_int (pda_cons pd_int (pda_cons pd_int (pda_cons pd_int (pda_cons pd_int (pda_cons pd_int (pda_cons pd_int (pda_cons pd_int (pda_cons pd_int (pda_cons pd_int (pda_cons pd_int (pda_cons (pd_call F__law_draw (hr.mono (by decide)) (pda_cons (pd_var 0) (pda_cons pd_int pda_nil))) pda_nil))))))))))))))))) pda_nil)))))
theorem ok__law_count (G : Gb mg) (F__law_draw : Fnd P w K mg base 1 "_law_draw" s__law_draw ["_law_bag_here", "_law_many"] sp__law_draw) (F__law_pick : Fnd P w K mg base 2 "_law_pick" s__law_pick ["_law_bag_here", "_law_some"] sp__law_pick) {f : Addr} {fd : FuncData} (F : FunD K "_law_count" "_law_count" (defArgs s__law_count) (defBody s__law_count) (defScope s__law_count) [] [] f fd) : FnOk P w K mg base CX0 3 f fd ["_law_bag_here"] (up0 K sp__law_count) :=
  fn0 F sc__law_count (fun cdv A outer sh H E c hr => dv__law_count G F__law_draw F__law_pick cdv A outer sh H E c hr) pure__law_count
theorem dv__law_word (G : Gb mg) (F__law_draw : Fnd P w K mg base 1 "_law_draw" s__law_draw ["_law_bag_here", "_law_many"] sp__law_draw) (F__law_pick : Fnd P w K mg base 2 "_law_pick" s__law_pick ["_law_bag_here", "_law_some"] sp__law_pick) {f : Addr} (cdv : Value) (A : Around) (outer : List Env) (sh : Shared) (H : Hp) (E : XK) (c : Wd) (hr : Room 2 (A.deeper (PyProof.Rows.envOfC "_law_word" (defScope s__law_word) sh.heap.objs.size f cdv))) :
    PDSs c (cxOf CX0 P w K mg base ["_law_bag_here", "_law_letters", "_law_found", "_law_k", "_law_spot"] "_law_word" (defScope s__law_word) f cdv A outer sh H E).nox (defBody s__law_word) t__law_word :=
    (pdss_cons (pds_set (i := 1) sc__law_word.nd pd_str)
      (pdss_cons (pds_set (i := 2) sc__law_word.nd (pd_join pd_str (pd_lc (own := [("_law_k", 3)]) (us := [3]) rfl sc__law_word.nd (pdi_range1 G.b_range (pda_cons (pd_call F__law_draw (hr.mono (by decide)) (pda_cons (pd_var 0) (pda_cons pd_int pda_nil))) pda_nil)) (blkOk_by (N := ["_law_bag_here", "_law_letters", "_law_found", "_law_k", "_law_spot"]) (sc := defScope s__law_word) (own := [("_law_k", 3)]) (by decide +kernel)) (fun _ _ _ _ _ => (pdg_name (i := 3) sc__law_word.nd)) (fun _ _ _ _ _ => pdts_nil) (fun _ _ _ _ _ => (pd_call F__law_pick (hr.mono (by decide)) (pda_cons (pd_var 0) (pda_cons (pd_var 1) pda_nil)))))))
      (pdss_cons (pds_set (i := 4) sc__law_word.nd (pd_call F__law_draw (hr.mono (by decide)) (pda_cons (pd_var 0) (pda_cons (pd_op opD_add (pd_callB len_D rfl G.b_len PySem.boot_len (pda_cons (pd_var 2) pda_nil)) pd_int) pda_nil))))
      (pdss_one (pds_ret (pd_op opD_add (pd_op opD_add (pd_slice (pd_var 2) pdo_none (pdo_some (pd_var 4))) (pd_call F__law_pick (hr.mono (by decide)) (pda_cons (pd_var 0) (pda_cons (pd_lst (pda_cons pd_str (pda_cons pd_str (pda_cons pd_str (pda_cons pd_str (pda_cons pd_str (pda_cons pd_str (pda_cons pd_str (pda_cons pd_str (pda_cons pd_str (pda_cons pd_str pda_nil))))))))))) pda_nil)))) (pd_slice (pd_var 2) (pdo_some (pd_var 4)) pdo_none)))))))
theorem ok__law_word (G : Gb mg) (F__law_draw : Fnd P w K mg base 1 "_law_draw" s__law_draw ["_law_bag_here", "_law_many"] sp__law_draw) (F__law_pick : Fnd P w K mg base 2 "_law_pick" s__law_pick ["_law_bag_here", "_law_some"] sp__law_pick) {f : Addr} {fd : FuncData} (F : FunD K "_law_word" "_law_word" (defArgs s__law_word) (defBody s__law_word) (defScope s__law_word) [] [] f fd) : FnOk P w K mg base CX0 3 f fd ["_law_bag_here"] (up0 K sp__law_word) :=
  fn0 F sc__law_word (fun cdv A outer sh H E c hr => dv__law_word G F__law_draw F__law_pick cdv A outer sh H E c hr) pure__law_word
theorem dv__law_figures (G : Gb mg) (F__law_draw : Fnd P w K mg base 1 "_law_draw" s__law_draw ["_law_bag_here", "_law_many"] sp__law_draw) (F__law_pick : Fnd P w K mg base 2 "_law_pick" s__law_pick ["_law_bag_here", "_law_some"] sp__law_pick) {f : Addr} (cdv : Value) (A : Around) (outer : List Env) (sh : Shared) (H : Hp) (E : XK) (c : Wd) (hr : Room 2 (A.deeper (PyProof.Rows.envOfC "_law_figures" (defScope s__law_figures) sh.heap.objs.size f cdv))) :
    PDSs c (cxOf CX0 P w K mg base ["_law_bag_here", "_law_found", "_law_k", "_law_way", "_law_spot"] "_law_figures" (defScope s__law_figures) f cdv A outer sh H E).nox (defBody s__law_figures) t__law_figures :=
    (pdss_cons (pds_set (i := 1) sc__law_figures.nd (pd_join pd_str (pd_lc (own := [("_law_k", 2)]) (us := [2]) rfl sc__law_figures.nd (pdi_range1 G.b_range (pda_cons (pd_call F__law_draw (hr.mono (by decide)) (pda_cons (pd_var 0) (pda_cons pd_int pda_nil))) pda_nil)) (blkOk_by (N := ["_law_bag_here", "_law_found", "_law_k", "_law_way", "_law_spot"]) (sc := defScope s__law_figures) (own := [("_law_k", 2)]) (by decide +kernel)) (fun _ _ _ _ _ => (pdg_name (i := 2) sc__law_figures.nd)) (fun _ _ _ _ _ => pdts_nil) (fun _ _ _ _ _ => (pd_call F__law_pick (hr.mono (by decide)) (pda_cons (pd_var 0) (pda_cons pd_str pda_nil)))))))
      (pdss_cons (pds_set (i := 3) sc__law_figures.nd (pd_call F__law_draw (hr.mono (by decide)) (pda_cons (pd_var 0) (pda_cons pd_int pda_nil))))
      (pdss_cons (pds_if (pdt_cmp (eq_flat hr.units) (pd_var 3) pd_int) (pdss_cons (pds_set (i := 4) sc__law_figures.nd (pd_call F__law_draw (hr.mono (by decide)) (pda_cons (pd_var 0) (pda_cons (pd_op opD_add (pd_callB len_D rfl G.b_len PySem.boot_len (pda_cons (pd_var 1) pda_nil)) pd_int) pda_nil))))
      (pdss_one (pds_ret (pd_op opD_add (pd_op opD_add (pd_slice (pd_var 1) pdo_none (pdo_some (pd_var 4))) (pd_call F__law_pick (hr.mono (by decide)) (pda_cons (pd_var 0) (pda_cons (pd_lst (pda_cons pd_str (pda_cons pd_str (pda_cons pd_str (pda_cons pd_str (pda_cons pd_str (pda_cons pd_str (pda_cons pd_str (pda_cons pd_str pda_nil))))))))) pda_nil)))) (pd_slice (pd_var 1) (pdo_some (pd_var 4)) pdo_none))))) pdss_nil)
      (pdss_one (pds_ret (pd_if (pdt_cmp opD_lt (pd_var 3) pd_int) (pd_callTy str_D rfl G.b_str (by decide +kernel) (pda_cons (pd_call F__law_draw (hr.mono (by decide)) (pda_cons (pd_var 0) (pda_cons (pd_op opD_pow pd_int pd_int) pda_nil))) pda_nil)) (pd_var 1)))))))
theorem ok__law_figures (G : Gb mg) (F__law_draw : Fnd P w K mg base 1 "_law_draw" s__law_draw ["_law_bag_here", "_law_many"] sp__law_draw) (F__law_pick : Fnd P w K mg base 2 "_law_pick" s__law_pick ["_law_bag_here", "_law_some"] sp__law_pick) {f : Addr} {fd : FuncData} (F : FunD K "_law_figures" "_law_figures" (defArgs s__law_figures) (defBody s__law_figures) (defScope s__law_figures) [] [] f fd) : FnOk P w K mg base CX0 3 f fd ["_law_bag_here"] (up0 K sp__law_figures) :=
  fn0 F sc__law_figures (fun cdv A outer sh H E c hr => dv__law_figures G F__law_draw F__law_pick cdv A outer sh H E c hr) pure__law_figures
theorem dv__law_is_count (G : Gb mg) {f : Addr} (cdv : Value) (A : Around) (outer : List Env) (sh : Shared) (H : Hp) (E : XK) (c : Wd) (hr : Room 0 (A.deeper (PyProof.Rows.envOfC "_law_is_count" (defScope s__law_is_count) sh.heap.objs.size f cdv))) :
    PDSs c (cxOf CX0 P w K mg base ["_law_thing", "_law_low", "_law_high"] "_law_is_count" (defScope s__law_is_count) f cdv A outer sh H E).nox (defBody s__law_is_count) t__law_is_count :=
    (pdss_one (pds_ret (pd_and (pd_callB isi_D rfl G.b_isinstance (by decide +kernel) (pda_cons (pd_var 0) (pda_cons (pd_ty G.b_int (by decide +kernel)) pda_nil))) (pd_and (pd_not (pd_callB isi_D rfl G.b_isinstance (by decide +kernel) (pda_cons (pd_var 0) (pda_cons (pd_ty G.b_bool (by decide +kernel)) pda_nil)))) (pd_and (pd_cmp opD_le (pd_var 1) (pd_var 0)) (pd_one (pd_cmp opD_le (pd_var 0) (pd_var 2))))))))
theorem ok__law_is_count (G : Gb mg) {f : Addr} {fd : FuncData} (F : FunD K "_law_is_count" "_law_is_count" (defArgs s__law_is_count) (defBody s__law_is_count) (defScope s__law_is_count) [] [] f fd) : FnOk P w K mg base CX0 1 f fd ["_law_thing", "_law_low", "_law_high"] (up0 K sp__law_is_count) :=
  fn0 F sc__law_is_count (fun cdv A outer sh H E c hr => dv__law_is_count G cdv A outer sh H E c hr) pure__law_is_count
theorem dv__law_is_tuple (G : Gb mg) (F__law_is_count : Fnd P w K mg base 1 "_law_is_count" s__law_is_count ["_law_thing", "_law_low", "_law_high"] sp__law_is_count) {f : Addr} (cdv : Value) (A : Around) (outer : List Env) (sh : Shared) (H : Hp) (E : XK) (c : Wd) (hr : Room 1 (A.deeper (PyProof.Rows.envOfC "_law_is_tuple" (defScope s__law_is_tuple) sh.heap.objs.size f cdv))) :
    PDSs c (cxOf CX0 P w K mg base ["_law_thing", "_law_highs", "_law_one", "_law_high"] "_law_is_tuple" (defScope s__law_is_tuple) f cdv A outer sh H E).nox (defBody s__law_is_tuple) t__law_is_tuple :=
    (pdss_cons (pds_if (PW.pt (pdw_or (pdt_not (pdt_val (pd_callB isi_D rfl G.b_isinstance (by decide +kernel) (pda_cons (pd_var 0) (pda_cons (pd_ty G.b_tuple (by decide +kernel)) pda_nil))))) (pdw_one (pdt_cmp (ne_flat hr.units) (pd_callB len_D rfl G.b_len PySem.boot_len (pda_cons (pd_var 0) pda_nil)) (pd_callB len_D rfl G.b_len PySem.boot_len (pda_cons (pd_var 1) pda_nil)))))) (pdss_one (pds_ret pd_bl)) pdss_nil)
      (pdss_one (pds_ret (pd_callB (all_D rfl) rfl G.b_all (by decide +kernel) (pda_cons (pd_lc (own := [("_law_one", 2), ("_law_high", 3)]) (us := [2, 3]) rfl sc__law_is_tuple.nd (pdi_zip G.b_zip (pda_cons (pd_var 0) (pda_cons (pd_var 1) pda_nil))) (blkOk_by (N := ["_law_thing", "_law_highs", "_law_one", "_law_high"]) (sc := defScope s__law_is_tuple) (own := [("_law_one", 2), ("_law_high", 3)]) (by decide +kernel)) (fun _ _ _ _ _ => (pdg_tup rfl (pdgs_cons (pdg_name (i := 2) sc__law_is_tuple.nd) (pdgs_cons (pdg_name (i := 3) sc__law_is_tuple.nd) pdgs_nil)))) (fun _ _ _ _ _ => pdts_nil) (fun _ _ _ _ _ => (pd_call F__law_is_count (hr.mono (by decide)) (pda_cons (pd_var 2) (pda_cons pd_int (pda_cons (pd_var 3) pda_nil)))))) pda_nil)))))
theorem ok__law_is_tuple (G : Gb mg) (F__law_is_count : Fnd P w K mg base 1 "_law_is_count" s__law_is_count ["_law_thing", "_law_low", "_law_high"] sp__law_is_count) {f : Addr} {fd : FuncData} (F : FunD K "_law_is_tuple" "_law_is_tuple" (defArgs s__law_is_tuple) (defBody s__law_is_tuple) (defScope s__law_is_tuple) [] [] f fd) : FnOk P w K mg base CX0 2 f fd ["_law_thing", "_law_highs"] (up0 K sp__law_is_tuple) :=
  fn0 F sc__law_is_tuple (fun cdv A outer sh H E c hr => dv__law_is_tuple G F__law_is_count cdv A outer sh H E c hr) pure__law_is_tuple
theorem dv__law_is_word (G : Gb mg) {f : Addr} (cdv : Value) (A : Around) (outer : List Env) (sh : Shared) (H : Hp) (E : XK) (c : Wd) (hr : Room 0 (A.deeper (PyProof.Rows.envOfC "_law_is_word" (defScope s__law_is_word) sh.heap.objs.size f cdv))) :
    PDSs c (cxOf CX0 P w K mg base ["_law_thing", "_law_sign"] "_law_is_word" (defScope s__law_is_word) f cdv A outer sh H E).nox (defBody s__law_is_word) t__law_is_word :=
    (pdss_cons (pds_if (PW.pt (pdw_or (pdt_not (pdt_val (pd_callB isi_D rfl G.b_isinstance (by decide +kernel) (pda_cons (pd_var 0) (pda_cons (pd_ty G.b_str (by decide +kernel)) pda_nil))))) (pdw_or (pdt_cmp opD_lt (pd_callB len_D rfl G.b_len PySem.boot_len (pda_cons (pd_var 0) pda_nil)) pd_int) (pdw_one (pdt_cmp opD_gt (pd_callB len_D rfl G.b_len PySem.boot_len (pda_cons (pd_var 0) pda_nil)) pd_int))))) (pdss_one (pds_ret pd_bl)) pdss_nil)
      (pdss_one (pds_ret (pd_callB (all_D rfl) rfl G.b_all (by decide +kernel) (pda_cons (pd_lc (own := [("_law_sign", 1)]) (us := [1]) rfl sc__law_is_word.nd (pdi_any (pd_var 0)) (blkOk_by (N := ["_law_thing", "_law_sign"]) (sc := defScope s__law_is_word) (own := [("_law_sign", 1)]) (by decide +kernel)) (fun _ _ _ _ _ => (pdg_name (i := 1) sc__law_is_word.nd)) (fun _ _ _ _ _ => pdts_nil) (fun _ _ _ _ _ => (pd_cmp opD_in (pd_var 1) pd_str))) pda_nil)))))
theorem ok__law_is_word (G : Gb mg) {f : Addr} {fd : FuncData} (F : FunD K "_law_is_word" "_law_is_word" (defArgs s__law_is_word) (defBody s__law_is_word) (defScope s__law_is_word) [] [] f fd) : FnOk P w K mg base CX0 1 f fd ["_law_thing"] (up0 K sp__law_is_word) :=
  fn0 F sc__law_is_word (fun cdv A outer sh H E c hr => dv__law_is_word G cdv A outer sh H E c hr) pure__law_is_word
theorem dv__law_number_of (G : Gb mg) {f : Addr} (cdv : Value) (A : Around) (outer : List Env) (sh : Shared) (H : Hp) (E : XK) (c : Wd) (hr : Room 0 (A.deeper (PyProof.Rows.envOfC "_law_number_of" (defScope s__law_number_of) sh.heap.objs.size f cdv))) :
    PDSs c (cxOf CX0 P w K mg base ["_law_thing", "_law_found", "_law_sign"] "_law_number_of" (defScope s__law_number_of) f cdv A outer sh H E).nox (defBody s__law_number_of) t__law_number_of :=
    (pdss_cons (pds_if (PW.pt (pdw_or (pdt_not (pdt_val (pd_callB isi_D rfl G.b_isinstance (by decide +kernel) (pda_cons (pd_var 0) (pda_cons (pd_ty G.b_str (by decide +kernel)) pda_nil))))) (pdw_or (pdt_cmp opD_lt (pd_callB len_D rfl G.b_len PySem.boot_len (pda_cons (pd_var 0) pda_nil)) pd_int) (pdw_or (pdt_cmp opD_gt (pd_callB len_D rfl G.b_len PySem.boot_len (pda_cons (pd_var 0) pda_nil)) pd_int) (pdw_one (PW.pt (pdw_and (pdt_cmp (eq_flat hr.units) (pd_ix (pd_var 0) pd_int) pd_str) (pdw_one (pdt_cmp (ne_flat hr.units) (pd_var 0) pd_str))))))))) (pdss_one (pds_ret pd_non)) pdss_nil)
      (pdss_cons (pds_set (i := 1) sc__law_number_of.nd pd_int)
      (pdss_cons (pds_for (vs := [2]) PassesOwn.never rfl (pdi_any (pd_var 0)) (pdg_name (i := 2) sc__law_number_of.nd) (pdss_cons (pds_if (pdt_cmp opD_nin (pd_var 2) pd_str) (pdss_one (pds_ret pd_non)) pdss_nil)
      (pdss_one (pds_set (i := 1) sc__law_number_of.nd (pd_op opD_add (pd_op opD_mul (pd_var 1) pd_int) (pd_sindex pd_str (pd_var 2)))))))
      (pdss_one (pds_ret (pd_var 1))))))
theorem ok__law_number_of (G : Gb mg) {f : Addr} {fd : FuncData} (F : FunD K "_law_number_of" "_law_number_of" (defArgs s__law_number_of) (defBody s__law_number_of) (defScope s__law_number_of) [] [] f fd) : FnOk P w K mg base CX0 1 f fd ["_law_thing"] (up0 K sp__law_number_of) :=
  fn0 F sc__law_number_of (fun cdv A outer sh H E c hr => dv__law_number_of G cdv A outer sh H E c hr) pure__law_number_of
theorem dv__law_judged_so (G : Gb mg) (F__law_is_count : Fnd P w K mg base 1 "_law_is_count" s__law_is_count ["_law_thing", "_law_low", "_law_high"] sp__law_is_count) (F__law_is_tuple : Fnd P w K mg base 2 "_law_is_tuple" s__law_is_tuple ["_law_thing", "_law_highs"] sp__law_is_tuple) (F__law_is_word : Fnd P w K mg base 1 "_law_is_word" s__law_is_word ["_law_thing"] sp__law_is_word) (F__law_number_of : Fnd P w K mg base 1 "_law_number_of" s__law_number_of ["_law_thing"] sp__law_number_of) (F__law_same : Fnd P w K mg base 8 "_law_same" s__law_same ["_law_found", "_law_due"] sp__law_same) (F_is_cell : Fnd P w K mg base 2 "is_cell" s_is_cell ["value"] sp_is_cell) (F_is_name : Fnd P w K mg base 1 "is_name" s_is_name ["value"] sp_is_name) (F_is_number : Fnd P w K mg base 1 "is_number" s_is_number ["value", "least", "most"] sp_is_number) (F_is_place : Fnd P w K mg base 3 "is_place" s_is_place ["value"] sp_is_place) (F_number_in : Fnd P w K mg base 1 "number_in" s_number_in ["text"] sp_number_in) {f : Addr} (cdv : Value) (A : Around) (outer : List Env) (sh : Shared) (H : Hp) (E : XK) (c : Wd) (hr : Room 8 (A.deeper (PyProof.Rows.envOfC "_law_judged_so" (defScope s__law_judged_so) sh.heap.objs.size f cdv))) :
    PDSs c (cxOf CX0 P w K mg base ["_law_thing", "_law_low", "_law_high", "_law_found", "_law_due"] "_law_judged_so" (defScope s__law_judged_so) f cdv A outer sh H E).nox (defBody s__law_judged_so) t__law_judged_so :=
    (pdss_cons (pds_set (i := 3) sc__law_judged_so.nd (pd_lst (pda_cons (pd_call F_is_name (hr.mono (by decide)) (pda_cons (pd_var 0) pda_nil)) (pda_cons (pd_call F_is_cell (hr.mono (by decide)) (pda_cons (pd_var 0) pda_nil)) (pda_cons (pd_call F_is_place (hr.mono (by decide)) (pda_cons (pd_var 0) pda_nil)) (pda_cons (pd_call F_is_number (hr.mono (by decide)) (pda_cons (pd_var 0) (pda_cons (pd_var 1) (pda_cons (pd_var 2) pda_nil)))) (pda_cons (pd_call F_number_in (hr.mono (by decide)) (pda_cons (pd_var 0) pda_nil)) pda_nil)))))))
      (pdss_cons (pds_set (i := 4) sc__law_judged_so.nd (pd_lst (pda_cons (pd_call F__law_is_word (hr.mono (by decide)) (pda_cons (pd_var 0) pda_nil)) (pda_cons (pd_call F__law_is_tuple (hr.mono (by decide)) (pda_cons (pd_var 0) (pda_cons (pd_tup (pda_cons pd_int (pda_cons pd_int pda_nil))) pda_nil))) (pda_cons (pd_call F__law_is_tuple (hr.mono (by decide)) (pda_cons (pd_var 0) (pda_cons (pd_tup (pda_cons pd_int (pda_cons pd_int (pda_cons pd_int pda_nil)))) pda_nil))) pda_nil)))))
      (pdss_one (pds_ret (pd_call F__law_same (hr.mono (by decide)) (pda_cons (pd_var 3) (pda_cons (pd_op opD_add (pd_var 4) (pd_lst (pda_cons (pd_call F__law_is_count (hr.mono (by decide)) (pda_cons (pd_var 0) (pda_cons (pd_var 1) (pda_cons (pd_var 2) pda_nil)))) (pda_cons (pd_call F__law_number_of (hr.mono (by decide)) (pda_cons (pd_var 0) pda_nil)) pda_nil)))) pda_nil)))))))
theorem ok__law_judged_so (G : Gb mg) (F__law_is_count : Fnd P w K mg base 1 "_law_is_count" s__law_is_count ["_law_thing", "_law_low", "_law_high"] sp__law_is_count) (F__law_is_tuple : Fnd P w K mg base 2 "_law_is_tuple" s__law_is_tuple ["_law_thing", "_law_highs"] sp__law_is_tuple) (F__law_is_word : Fnd P w K mg base 1 "_law_is_word" s__law_is_word ["_law_thing"] sp__law_is_word) (F__law_number_of : Fnd P w K mg base 1 "_law_number_of" s__law_number_of ["_law_thing"] sp__law_number_of) (F__law_same : Fnd P w K mg base 8 "_law_same" s__law_same ["_law_found", "_law_due"] sp__law_same) (F_is_cell : Fnd P w K mg base 2 "is_cell" s_is_cell ["value"] sp_is_cell) (F_is_name : Fnd P w K mg base 1 "is_name" s_is_name ["value"] sp_is_name) (F_is_number : Fnd P w K mg base 1 "is_number" s_is_number ["value", "least", "most"] sp_is_number) (F_is_place : Fnd P w K mg base 3 "is_place" s_is_place ["value"] sp_is_place) (F_number_in : Fnd P w K mg base 1 "number_in" s_number_in ["text"] sp_number_in) {f : Addr} {fd : FuncData} (F : FunD K "_law_judged_so" "_law_judged_so" (defArgs s__law_judged_so) (defBody s__law_judged_so) (defScope s__law_judged_so) [] [] f fd) : FnOk P w K mg base CX0 9 f fd ["_law_thing", "_law_low", "_law_high"] (up0 K sp__law_judged_so) :=
  fn0 F sc__law_judged_so (fun cdv A outer sh H E c hr => dv__law_judged_so G F__law_is_count F__law_is_tuple F__law_is_word F__law_number_of F__law_same F_is_cell F_is_name F_is_number F_is_place F_number_in cdv A outer sh H E c hr) pure__law_judged_so
theorem dv_law (G : Gb mg) (F__law_bag : Fnd P w K mg base 1 "_law_bag" s__law_bag ["_law_script"] sp__law_bag) (F__law_count : Fnd P w K mg base 3 "_law_count" s__law_count ["_law_bag_here"] sp__law_count) (F__law_draw : Fnd P w K mg base 1 "_law_draw" s__law_draw ["_law_bag_here", "_law_many"] sp__law_draw) (F__law_figures : Fnd P w K mg base 3 "_law_figures" s__law_figures ["_law_bag_here"] sp__law_figures) (F__law_is_count : Fnd P w K mg base 1 "_law_is_count" s__law_is_count ["_law_thing", "_law_low", "_law_high"] sp__law_is_count) (F__law_judged_so : Fnd P w K mg base 9 "_law_judged_so" s__law_judged_so ["_law_thing", "_law_low", "_law_high"] sp__law_judged_so) (F__law_odd : Fnd P w K mg base 3 "_law_odd" s__law_odd ["_law_bag_here"] sp__law_odd) (F__law_same : Fnd P w K mg base 8 "_law_same" s__law_same ["_law_found", "_law_due"] sp__law_same) (F__law_word : Fnd P w K mg base 3 "_law_word" s__law_word ["_law_bag_here"] sp__law_word) (F_is_cell : Fnd P w K mg base 2 "is_cell" s_is_cell ["value"] sp_is_cell) (F_is_name : Fnd P w K mg base 1 "is_name" s_is_name ["value"] sp_is_name) (F_is_number : Fnd P w K mg base 1 "is_number" s_is_number ["value", "least", "most"] sp_is_number) (F_is_place : Fnd P w K mg base 3 "is_place" s_is_place ["value"] sp_is_place) (F_number_in : Fnd P w K mg base 1 "number_in" s_number_in ["text"] sp_number_in) {f : Addr} (cdv : Value) (A : Around) (outer : List Env) (sh : Shared) (H : Hp) (E : XK) (c : Wd) (hr : Room 9 (A.deeper (PyProof.Rows.envOfC "law" (defScope s_law) sh.heap.objs.size f cdv))) :
    PDSs c (cxOf CX0 P w K mg base ["_law_script", "_law_bag_here", "_law_turn", "_law_low", "_law_high", "_law_some", "_law_items", "_law_k", "_law_spot", "_law_bent", "_law_row_z", "_law_thing", "_law_number", "_law_found"] "law" (defScope s_law) f cdv A outer sh H E).nox (defBody s_law) t_law :=
    (pdss_cons (pds_set (i := 1) sc_law.nd (pd_call F__law_bag (hr.mono (by decide)) (pda_cons (pd_var 0) pda_nil)))
      (pdss_cons (pds_for (vs := [2]) PassesOwn.never rfl (pdi_range1 G.b_range (pda_cons pd_int pda_nil)) (pdg_name (i := 2) sc_law.nd) (pdss_cons (pds_set (i := 3) sc_law.nd (pd_call F__law_count (hr.mono (by decide)) (pda_cons (pd_var 1) pda_nil)))
      (pdss_cons (pds_set (i := 4) sc_law.nd (pd_op opD_sub (pd_op opD_add (pd_var 3) (pd_call F__law_draw (hr.mono (by decide)) (pda_cons (pd_var 1) (pda_cons pd_int pda_nil)))) pd_int))
      (pdss_cons (pds_set (i := 5) sc_law.nd (pd_lst (pda_cons (pd_call F__law_word (hr.mono (by decide)) (pda_cons (pd_var 1) pda_nil)) (pda_cons (pd_call F__law_figures (hr.mono (by decide)) (pda_cons (pd_var 1) pda_nil)) (pda_cons (pd_call F__law_odd (hr.mono (by decide)) (pda_cons (pd_var 1) pda_nil)) (pda_cons (pd_op opD_sub (pd_var 3) pd_int) (pda_cons (pd_var 3) (pda_cons (pd_var 4) (pda_cons (pd_op opD_add (pd_var 4) pd_int) pda_nil)))))))))
      (pdss_cons (pds_setLc (i := 6) (own := [("_law_k", 7)]) (us := [7]) rfl sc_law.nd (pdi_range1 G.b_range (pda_cons pd_int pda_nil)) (blkOk_by (N := ["_law_script", "_law_bag_here", "_law_turn", "_law_low", "_law_high", "_law_some", "_law_items", "_law_k", "_law_spot", "_law_bent", "_law_row_z", "_law_thing", "_law_number", "_law_found"]) (sc := defScope s_law) (own := [("_law_k", 7)]) (by decide +kernel)) (fun _ _ _ _ _ => (pdg_name (i := 7) sc_law.nd)) (fun _ _ _ _ _ => pdts_nil) (fun _ _ _ _ _ => (pd_call F__law_count (hr.mono (by decide)) (pda_cons (pd_var 1) pda_nil))) (sw_true rfl rfl rfl (by decide +kernel)))
      (pdss_cons (pds_set (i := 8) sc_law.nd (pd_call F__law_draw (hr.mono (by decide)) (pda_cons (pd_var 1) (pda_cons pd_int pda_nil))))
      (pdss_cons (pds_set (i := 9) sc_law.nd (pd_op opD_add (pd_op opD_add (pd_slice (pd_var 6) pdo_none (pdo_some (pd_var 8))) (pd_lst (pda_cons (pd_call F__law_odd (hr.mono (by decide)) (pda_cons (pd_var 1) pda_nil)) pda_nil))) (pd_slice (pd_var 6) (pdo_some (pd_op opD_add (pd_var 8) pd_int)) pdo_none)))
      (pdss_cons (pds_for (vs := [10]) PassesOwn.never rfl (pdi_any (pd_lst (pda_cons (pd_var 6) (pda_cons (pd_op opD_add (pd_lst (pda_cons (pd_call F__law_draw (hr.mono (by decide)) (pda_cons (pd_var 1) (pda_cons pd_int pda_nil))) pda_nil)) (pd_lc (own := [("_law_k", 7)]) (us := [7]) rfl sc_law.nd (pdi_range1 G.b_range (pda_cons pd_int pda_nil)) (blkOk_by (N := ["_law_script", "_law_bag_here", "_law_turn", "_law_low", "_law_high", "_law_some", "_law_items", "_law_k", "_law_spot", "_law_bent", "_law_row_z", "_law_thing", "_law_number", "_law_found"]) (sc := defScope s_law) (own := [("_law_k", 7)]) (by decide +kernel)) (fun _ _ _ _ _ => (pdg_name (i := 7) sc_law.nd)) (fun _ _ _ _ _ => pdts_nil) (fun _ _ _ _ _ => (pd_call F__law_draw (hr.mono (by decide)) (pda_cons (pd_var 1) (pda_cons pd_int pda_nil)))))) (pda_cons (pd_var 9) pda_nil))))) (pdg_name (i := 10) sc_law.nd) (pdss_one (pds_set (i := 5) sc_law.nd (pd_op opD_add (pd_var 5) (pd_lst (pda_cons (pd_callTy tup_D rfl G.b_tuple (by decide +kernel) (pda_cons (pd_slice (pd_var 10) pdo_none (pdo_some pd_int)) pda_nil)) (pda_cons (pd_callTy tup_D rfl G.b_tuple (by decide +kernel) (pda_cons (pd_slice (pd_var 10) pdo_none (pdo_some pd_int)) pda_nil)) (pda_cons (pd_callTy tup_D rfl G.b_tuple (by decide +kernel) (pda_cons (pd_var 10) pda_nil)) (pda_cons (pd_slice (pd_var 10) pdo_none (pdo_some pd_int)) (pda_cons (pd_slice (pd_var 10) pdo_none (pdo_some pd_int)) (pda_cons (pd_callTy tup_D rfl G.b_tuple (by decide +kernel) (pda_cons (pd_slice (pd_var 10) (pdo_some pd_int) (pdo_some pd_int)) pda_nil)) pda_nil)))))))))))
      (pdss_cons (pds_for (vs := [11]) PassesOwn.never rfl (pdi_any (pd_var 5)) (pdg_name (i := 11) sc_law.nd) (pdss_one (pds_if (pdt_not (pdt_val (pd_call F__law_judged_so (hr.mono (by decide)) (pda_cons (pd_var 11) (pda_cons (pd_var 3) (pda_cons (pd_var 4) pda_nil)))))) (pdss_one (pds_ret pd_bl)) pdss_nil)))
      (pdss_cons (pds_set (i := 12) sc_law.nd (pd_call F__law_draw (hr.mono (by decide)) (pda_cons (pd_var 1) (pda_cons (pd_op opD_pow pd_int pd_int) pda_nil))))
      (pdss_cons (pds_if (pdt_not (pdt_val (pd_call F__law_same (hr.mono (by decide)) (pda_cons (pd_lst (pda_cons (pd_call F_number_in (hr.mono (by decide)) (pda_cons (pd_callTy str_D rfl G.b_str (by decide +kernel) (pda_cons (pd_var 12) pda_nil)) pda_nil)) (pda_cons (pd_call F_number_in (hr.mono (by decide)) (pda_cons (pd_op opD_add pd_str (pd_callTy str_D rfl G.b_str (by decide +kernel) (pda_cons (pd_var 12) pda_nil))) pda_nil)) (pda_cons (pd_call F_number_in (hr.mono (by decide)) (pda_cons (pd_callTy str_D rfl G.b_str (by decide +kernel) (pda_cons (pd_op opD_add (pd_op opD_pow pd_int pd_int) (pd_var 12)) pda_nil)) pda_nil)) pda_nil)))) (pda_cons (pd_lst (pda_cons (pd_var 12) (pda_cons pd_non (pda_cons pd_non pda_nil)))) pda_nil))))) (pdss_one (pds_ret pd_bl)) pdss_nil)
      (pdss_one (pds_if (pdt_cmp (ne_flat hr.units) (pd_callK0 (ks := ["least", "most", "value"]) (m := 3) Kw0.g (fun R a b => Kw0.rel R a b) (fun K w a b => Kw0.relL K w a b) Kw0.bind F_is_number (hr.mono (by decide)) (pdk_cons (pd_var 3) (pdk_cons (pd_var 4) (pdk_cons (pd_var 12) pdk_nil)))) (pd_call F__law_is_count (hr.mono (by decide)) (pda_cons (pd_var 12) (pda_cons (pd_var 3) (pda_cons (pd_var 4) pda_nil))))) (pdss_one (pds_ret pd_bl)) pdss_nil)))))))))))))
      (pdss_cons (pds_set (i := 13) sc_law.nd (pd_lst (pda_cons (pd_callK0 (ks := ["value"]) (m := 1) Kw4.g (fun R a b => Kw4.rel R a b) (fun K w a b => Kw4.relL K w a b) Kw4.bind F_is_name (hr.mono (by decide)) (pdk_cons pd_str pdk_nil)) (pda_cons (pd_callK0 (ks := ["value"]) (m := 1) Kw3.g (fun R a b => Kw3.rel R a b) (fun K w a b => Kw3.relL K w a b) Kw3.bind F_is_cell (hr.mono (by decide)) (pdk_cons (pd_tup (pda_cons pd_int (pda_cons pd_int pda_nil))) pdk_nil)) (pda_cons (pd_callK0 (ks := ["value"]) (m := 1) Kw2.g (fun R a b => Kw2.rel R a b) (fun K w a b => Kw2.relL K w a b) Kw2.bind F_is_place (hr.mono (by decide)) (pdk_cons (pd_tup (pda_cons pd_int (pda_cons pd_int (pda_cons pd_int pda_nil)))) pdk_nil)) (pda_cons (pd_callK0 (ks := ["text"]) (m := 1) Kw1.g (fun R a b => Kw1.rel R a b) (fun K w a b => Kw1.relL K w a b) Kw1.bind F_number_in (hr.mono (by decide)) (pdk_cons pd_str pdk_nil)) (pda_cons (pd_call F_number_in (hr.mono (by decide)) (pda_cons pd_str pda_nil)) pda_nil)))))))
      (pdss_one (pds_ret (pd_and (pd_call F__law_same (hr.mono (by decide)) (pda_cons (pd_var 13) (pda_cons (pd_lst (pda_cons pd_bl (pda_cons pd_bl (pda_cons pd_bl (pda_cons pd_int (pda_cons pd_int pda_nil)))))) pda_nil))) (pd_and (pd_cmp opD_is (pd_call F_number_in (hr.mono (by decide)) (pda_cons pd_str pda_nil)) pd_non) (pd_one (pd_cmp opD_is (pd_call F_number_in (hr.mono (by decide)) (pda_cons pd_str pda_nil)) pd_non)))))))))
theorem ok_law (G : Gb mg) (F__law_bag : Fnd P w K mg base 1 "_law_bag" s__law_bag ["_law_script"] sp__law_bag) (F__law_count : Fnd P w K mg base 3 "_law_count" s__law_count ["_law_bag_here"] sp__law_count) (F__law_draw : Fnd P w K mg base 1 "_law_draw" s__law_draw ["_law_bag_here", "_law_many"] sp__law_draw) (F__law_figures : Fnd P w K mg base 3 "_law_figures" s__law_figures ["_law_bag_here"] sp__law_figures) (F__law_is_count : Fnd P w K mg base 1 "_law_is_count" s__law_is_count ["_law_thing", "_law_low", "_law_high"] sp__law_is_count) (F__law_judged_so : Fnd P w K mg base 9 "_law_judged_so" s__law_judged_so ["_law_thing", "_law_low", "_law_high"] sp__law_judged_so) (F__law_odd : Fnd P w K mg base 3 "_law_odd" s__law_odd ["_law_bag_here"] sp__law_odd) (F__law_same : Fnd P w K mg base 8 "_law_same" s__law_same ["_law_found", "_law_due"] sp__law_same) (F__law_word : Fnd P w K mg base 3 "_law_word" s__law_word ["_law_bag_here"] sp__law_word) (F_is_cell : Fnd P w K mg base 2 "is_cell" s_is_cell ["value"] sp_is_cell) (F_is_name : Fnd P w K mg base 1 "is_name" s_is_name ["value"] sp_is_name) (F_is_number : Fnd P w K mg base 1 "is_number" s_is_number ["value", "least", "most"] sp_is_number) (F_is_place : Fnd P w K mg base 3 "is_place" s_is_place ["value"] sp_is_place) (F_number_in : Fnd P w K mg base 1 "number_in" s_number_in ["text"] sp_number_in) {f : Addr} {fd : FuncData} (F : FunD K "law" "law" (defArgs s_law) (defBody s_law) (defScope s_law) [] [] f fd) : FnOk P w K mg base CX0 10 f fd ["_law_script"] (up0 K sp_law) :=
  fn0 F sc_law (fun cdv A outer sh H E c hr => dv_law G F__law_bag F__law_count F__law_draw F__law_figures F__law_is_count F__law_judged_so F__law_odd F__law_same F__law_word F_is_cell F_is_name F_is_number F_is_place F_number_in cdv A outer sh H E c hr) pure_law
end
end K01
/-! The head and the end. Printed by a program of mine. -/
namespace K01
open PySem PySem.Spec PyProof.Rows L2 DL
def d_is_number : He.DefD := ⟨("is_number", none), "is_number", "is_number", defArgs s_is_number, defBody s_is_number, defScope s_is_number, [], []⟩
def d_is_name : He.DefD := ⟨("is_name", none), "is_name", "is_name", defArgs s_is_name, defBody s_is_name, defScope s_is_name, [], []⟩
def d_is_cell : He.DefD := ⟨("is_cell", none), "is_cell", "is_cell", defArgs s_is_cell, defBody s_is_cell, defScope s_is_cell, [], []⟩
def d_is_place : He.DefD := ⟨("is_place", none), "is_place", "is_place", defArgs s_is_place, defBody s_is_place, defScope s_is_place, [], []⟩
def d_number_in : He.DefD := ⟨("number_in", none), "number_in", "number_in", defArgs s_number_in, defBody s_number_in, defScope s_number_in, [], []⟩
def d__law_bag : He.DefD := ⟨("_law_bag", none), "_law_bag", "_law_bag", defArgs s__law_bag, defBody s__law_bag, defScope s__law_bag, [], []⟩
def d__law_draw : He.DefD := ⟨("_law_draw", none), "_law_draw", "_law_draw", defArgs s__law_draw, defBody s__law_draw, defScope s__law_draw, [], []⟩
def d__law_pick : He.DefD := ⟨("_law_pick", none), "_law_pick", "_law_pick", defArgs s__law_pick, defBody s__law_pick, defScope s__law_pick, [], []⟩
def d__law_same : He.DefD := ⟨("_law_same", none), "_law_same", "_law_same", defArgs s__law_same, defBody s__law_same, defScope s__law_same, [], []⟩
def d__law_odd : He.DefD := ⟨("_law_odd", none), "_law_odd", "_law_odd", defArgs s__law_odd, defBody s__law_odd, defScope s__law_odd, [], []⟩
def d__law_count : He.DefD := ⟨("_law_count", none), "_law_count", "_law_count", defArgs s__law_count, defBody s__law_count, defScope s__law_count, [], []⟩
def d__law_word : He.DefD := ⟨("_law_word", none), "_law_word", "_law_word", defArgs s__law_word, defBody s__law_word, defScope s__law_word, [], []⟩
def d__law_figures : He.DefD := ⟨("_law_figures", none), "_law_figures", "_law_figures", defArgs s__law_figures, defBody s__law_figures, defScope s__law_figures, [], []⟩
def d__law_is_count : He.DefD := ⟨("_law_is_count", none), "_law_is_count", "_law_is_count", defArgs s__law_is_count, defBody s__law_is_count, defScope s__law_is_count, [], []⟩
def d__law_is_tuple : He.DefD := ⟨("_law_is_tuple", none), "_law_is_tuple", "_law_is_tuple", defArgs s__law_is_tuple, defBody s__law_is_tuple, defScope s__law_is_tuple, [], []⟩
def d__law_is_word : He.DefD := ⟨("_law_is_word", none), "_law_is_word", "_law_is_word", defArgs s__law_is_word, defBody s__law_is_word, defScope s__law_is_word, [], []⟩
def d__law_number_of : He.DefD := ⟨("_law_number_of", none), "_law_number_of", "_law_number_of", defArgs s__law_number_of, defBody s__law_number_of, defScope s__law_number_of, [], []⟩
def d__law_judged_so : He.DefD := ⟨("_law_judged_so", none), "_law_judged_so", "_law_judged_so", defArgs s__law_judged_so, defBody s__law_judged_so, defScope s__law_judged_so, [], []⟩
def d_law : He.DefD := ⟨("law", none), "law", "law", defArgs s_law, defBody s_law, defScope s_law, [], []⟩
def fnl : List He.DefD := [d_is_number, d_is_name, d_is_cell, d_is_place, d_number_in, d__law_bag, d__law_draw, d__law_pick, d__law_same, d__law_odd, d__law_count, d__law_word, d__law_figures, d__law_is_count, d__law_is_tuple, d__law_is_word, d__law_number_of, d__law_judged_so, d_law]
def fal : List He.Fa := [.glo "is_number", .glo "is_name", .glo "is_cell", .glo "is_place", .glo "number_in", .glo "_law_bag", .glo "_law_draw", .glo "_law_pick", .glo "_law_same", .glo "_law_odd", .glo "_law_count", .glo "_law_word", .glo "_law_figures", .glo "_law_is_count", .glo "_law_is_tuple", .glo "_law_is_word", .glo "_law_number_of", .glo "_law_judged_so", .glo "law", .free "all", .free "bool", .free "int", .free "isinstance", .free "len", .free "list", .free "range", .free "str", .free "tuple", .free "zip", .str "LETTERS" "abcdefghijklmnopqrstuvwxyz", .str "DIGITS" "0123456789", .int "MOST_LETTERS" 6, .int "MOST_DIGITS" 9, .int "LAST_INDEX" 5, .int "LAST_HOUR" 8]
abbrev R : PySem.W.OpenRow := PySem.W.OpenLaw.row PySem.Challenge.rw_highestsky_k01_words_judged
abbrev hk : PySem.W.Hook := He.hookD 4 fal fnl
def ob (s : PySem.W.SharedT) : He.AlD := He.obsDG 4 fal fnl (HandSHeadRun.getT s)
theorem ob_eq (s : PySem.W.SharedT) : ob s = hk.obs s.abs := He.obsDG_eq (HandSHeadRun.getT_eq s)
def loo : List Str := (["is_number", "is_name", "is_cell", "is_place", "number_in", "_law_bag", "_law_draw", "_law_pick", "_law_same", "_law_odd", "_law_count", "_law_word", "_law_figures", "_law_is_count", "_law_is_tuple", "_law_is_word", "_law_number_of", "_law_judged_so", "LETTERS", "DIGITS", "MOST_LETTERS", "MOST_DIGITS", "LAST_INDEX", "LAST_HOUR"] : List Str)
theorem run (w : World) : HandSHeadRun.RunEq R (PySem.W.view R.prog [26]) hk ob 6000 loo w := by
  intro os
  kernel_rfl
theorem facts {P : Program} {w : World} {K : PySem.W.Frag} {h : Heap} {mg : Str → Option Value} {f : Addr} (X : K.In h) (G : h.Ns mainGlobals mg) (hfa : mg ("law" : Str) = some (.ref f)) (c : He.SaysD fal fnl K) :
    ∃ fd : FuncData, (∀ (s : Shared) (v : Value), BindsTo s fd ⟨[v], []⟩ [("_law_script", v)]) ∧ ∀ base : Heap, K.In base → base.Ns mainGlobals mg → FnOk P w K mg base CX0 10 f fd ["_law_script"] (up0 K sp_law) := by
  have GB : Gb mg := ⟨He.free_ok X G (c.fact 19 (f := .free "all") rfl), He.free_ok X G (c.fact 20 (f := .free "bool") rfl), He.free_ok X G (c.fact 21 (f := .free "int") rfl), He.free_ok X G (c.fact 22 (f := .free "isinstance") rfl), He.free_ok X G (c.fact 23 (f := .free "len") rfl), He.free_ok X G (c.fact 24 (f := .free "list") rfl), He.free_ok X G (c.fact 25 (f := .free "range") rfl), He.free_ok X G (c.fact 26 (f := .free "str") rfl), He.free_ok X G (c.fact 27 (f := .free "tuple") rfl), He.free_ok X G (c.fact 28 (f := .free "zip") rfl), He.str_ok X G (c.fact 29 (f := .str "LETTERS" "abcdefghijklmnopqrstuvwxyz") rfl), He.str_ok X G (c.fact 30 (f := .str "DIGITS" "0123456789") rfl), He.int_ok X G (c.fact 31 (f := .int "MOST_LETTERS" 6) rfl), He.int_ok X G (c.fact 32 (f := .int "MOST_DIGITS" 9) rfl), He.int_ok X G (c.fact 33 (f := .int "LAST_INDEX" 5) rfl), He.int_ok X G (c.fact 34 (f := .int "LAST_HOUR" 8) rfl)⟩
  obtain ⟨fd0, f0⟩ := c.def_ 0 (d := d_is_number) rfl
  have b0 := f0.bindsN (ps := ["value", "least", "most"]) bn_is_number
  have m0 := He.glo_ok X G (c.fact 0 (f := .glo "is_number") rfl)
  obtain ⟨fd1, f1⟩ := c.def_ 1 (d := d_is_name) rfl
  have b1 := f1.bindsN (ps := ["value"]) bn_is_name
  have m1 := He.glo_ok X G (c.fact 1 (f := .glo "is_name") rfl)
  obtain ⟨fd2, f2⟩ := c.def_ 2 (d := d_is_cell) rfl
  have b2 := f2.bindsN (ps := ["value"]) bn_is_cell
  have m2 := He.glo_ok X G (c.fact 2 (f := .glo "is_cell") rfl)
  obtain ⟨fd3, f3⟩ := c.def_ 3 (d := d_is_place) rfl
  have b3 := f3.bindsN (ps := ["value"]) bn_is_place
  have m3 := He.glo_ok X G (c.fact 3 (f := .glo "is_place") rfl)
  obtain ⟨fd4, f4⟩ := c.def_ 4 (d := d_number_in) rfl
  have b4 := f4.bindsN (ps := ["text"]) bn_number_in
  have m4 := He.glo_ok X G (c.fact 4 (f := .glo "number_in") rfl)
  obtain ⟨fd5, f5⟩ := c.def_ 5 (d := d__law_bag) rfl
  have b5 := f5.bindsN (ps := ["_law_script"]) bn__law_bag
  have m5 := He.glo_ok X G (c.fact 5 (f := .glo "_law_bag") rfl)
  obtain ⟨fd6, f6⟩ := c.def_ 6 (d := d__law_draw) rfl
  have b6 := f6.bindsN (ps := ["_law_bag_here", "_law_many"]) bn__law_draw
  have m6 := He.glo_ok X G (c.fact 6 (f := .glo "_law_draw") rfl)
  obtain ⟨fd7, f7⟩ := c.def_ 7 (d := d__law_pick) rfl
  have b7 := f7.bindsN (ps := ["_law_bag_here", "_law_some"]) bn__law_pick
  have m7 := He.glo_ok X G (c.fact 7 (f := .glo "_law_pick") rfl)
  obtain ⟨fd8, f8⟩ := c.def_ 8 (d := d__law_same) rfl
  have b8 := f8.bindsN (ps := ["_law_found", "_law_due"]) bn__law_same
  have m8 := He.glo_ok X G (c.fact 8 (f := .glo "_law_same") rfl)
  obtain ⟨fd9, f9⟩ := c.def_ 9 (d := d__law_odd) rfl
  have b9 := f9.bindsN (ps := ["_law_bag_here"]) bn__law_odd
  have m9 := He.glo_ok X G (c.fact 9 (f := .glo "_law_odd") rfl)
  obtain ⟨fd10, f10⟩ := c.def_ 10 (d := d__law_count) rfl
  have b10 := f10.bindsN (ps := ["_law_bag_here"]) bn__law_count
  have m10 := He.glo_ok X G (c.fact 10 (f := .glo "_law_count") rfl)
  obtain ⟨fd11, f11⟩ := c.def_ 11 (d := d__law_word) rfl
  have b11 := f11.bindsN (ps := ["_law_bag_here"]) bn__law_word
  have m11 := He.glo_ok X G (c.fact 11 (f := .glo "_law_word") rfl)
  obtain ⟨fd12, f12⟩ := c.def_ 12 (d := d__law_figures) rfl
  have b12 := f12.bindsN (ps := ["_law_bag_here"]) bn__law_figures
  have m12 := He.glo_ok X G (c.fact 12 (f := .glo "_law_figures") rfl)
  obtain ⟨fd13, f13⟩ := c.def_ 13 (d := d__law_is_count) rfl
  have b13 := f13.bindsN (ps := ["_law_thing", "_law_low", "_law_high"]) bn__law_is_count
  have m13 := He.glo_ok X G (c.fact 13 (f := .glo "_law_is_count") rfl)
  obtain ⟨fd14, f14⟩ := c.def_ 14 (d := d__law_is_tuple) rfl
  have b14 := f14.bindsN (ps := ["_law_thing", "_law_highs"]) bn__law_is_tuple
  have m14 := He.glo_ok X G (c.fact 14 (f := .glo "_law_is_tuple") rfl)
  obtain ⟨fd15, f15⟩ := c.def_ 15 (d := d__law_is_word) rfl
  have b15 := f15.bindsN (ps := ["_law_thing"]) bn__law_is_word
  have m15 := He.glo_ok X G (c.fact 15 (f := .glo "_law_is_word") rfl)
  obtain ⟨fd16, f16⟩ := c.def_ 16 (d := d__law_number_of) rfl
  have b16 := f16.bindsN (ps := ["_law_thing"]) bn__law_number_of
  have m16 := He.glo_ok X G (c.fact 16 (f := .glo "_law_number_of") rfl)
  obtain ⟨fd17, f17⟩ := c.def_ 17 (d := d__law_judged_so) rfl
  have b17 := f17.bindsN (ps := ["_law_thing", "_law_low", "_law_high"]) bn__law_judged_so
  have m17 := He.glo_ok X G (c.fact 17 (f := .glo "_law_judged_so") rfl)
  obtain ⟨fd18, f18⟩ := c.def_ 18 (d := d_law) rfl
  have e := hfa.symm.trans (He.glo_ok X G (c.fact 18 (f := .glo "law") rfl))
  cases e
  have bL := FunD.bindsA (ps := ["_law_script"]) f18 bn_law
  refine ⟨fd18, fun s v => bL s [v] rfl, fun base _ _ => ?_⟩
  have F_is_number : Fnd P w K mg base 1 "is_number" s_is_number ["value", "least", "most"] sp_is_number := ⟨_, fd0, f0, ok_is_number GB f0, m0, b0⟩
  have F_is_name : Fnd P w K mg base 1 "is_name" s_is_name ["value"] sp_is_name := ⟨_, fd1, f1, ok_is_name GB f1, m1, b1⟩
  have F_is_cell : Fnd P w K mg base 2 "is_cell" s_is_cell ["value"] sp_is_cell := ⟨_, fd2, f2, ok_is_cell GB F_is_number f2, m2, b2⟩
  have F_is_place : Fnd P w K mg base 3 "is_place" s_is_place ["value"] sp_is_place := ⟨_, fd3, f3, ok_is_place GB F_is_cell F_is_number f3, m3, b3⟩
  have F_number_in : Fnd P w K mg base 1 "number_in" s_number_in ["text"] sp_number_in := ⟨_, fd4, f4, ok_number_in GB f4, m4, b4⟩
  have F__law_bag : Fnd P w K mg base 1 "_law_bag" s__law_bag ["_law_script"] sp__law_bag := ⟨_, fd5, f5, ok__law_bag GB f5, m5, b5⟩
  have F__law_draw : Fnd P w K mg base 1 "_law_draw" s__law_draw ["_law_bag_here", "_law_many"] sp__law_draw := ⟨_, fd6, f6, draw_ok (ok__law_draw GB f6), m6, b6⟩
  have F__law_pick : Fnd P w K mg base 2 "_law_pick" s__law_pick ["_law_bag_here", "_law_some"] sp__law_pick := ⟨_, fd7, f7, ok__law_pick GB F__law_draw f7, m7, b7⟩
  have F__law_same : Fnd P w K mg base 8 "_law_same" s__law_same ["_law_found", "_law_due"] sp__law_same := same_ok GB f8 m8 b8 6
  have F__law_odd : Fnd P w K mg base 3 "_law_odd" s__law_odd ["_law_bag_here"] sp__law_odd := ⟨_, fd9, f9, ok__law_odd GB F__law_pick f9, m9, b9⟩
  have F__law_count : Fnd P w K mg base 3 "_law_count" s__law_count ["_law_bag_here"] sp__law_count := ⟨_, fd10, f10, ok__law_count GB F__law_draw F__law_pick f10, m10, b10⟩
  have F__law_word : Fnd P w K mg base 3 "_law_word" s__law_word ["_law_bag_here"] sp__law_word := ⟨_, fd11, f11, ok__law_word GB F__law_draw F__law_pick f11, m11, b11⟩
  have F__law_figures : Fnd P w K mg base 3 "_law_figures" s__law_figures ["_law_bag_here"] sp__law_figures := ⟨_, fd12, f12, ok__law_figures GB F__law_draw F__law_pick f12, m12, b12⟩
  have F__law_is_count : Fnd P w K mg base 1 "_law_is_count" s__law_is_count ["_law_thing", "_law_low", "_law_high"] sp__law_is_count := ⟨_, fd13, f13, ok__law_is_count GB f13, m13, b13⟩
  have F__law_is_tuple : Fnd P w K mg base 2 "_law_is_tuple" s__law_is_tuple ["_law_thing", "_law_highs"] sp__law_is_tuple := ⟨_, fd14, f14, ok__law_is_tuple GB F__law_is_count f14, m14, b14⟩
  have F__law_is_word : Fnd P w K mg base 1 "_law_is_word" s__law_is_word ["_law_thing"] sp__law_is_word := ⟨_, fd15, f15, ok__law_is_word GB f15, m15, b15⟩
  have F__law_number_of : Fnd P w K mg base 1 "_law_number_of" s__law_number_of ["_law_thing"] sp__law_number_of := ⟨_, fd16, f16, ok__law_number_of GB f16, m16, b16⟩
  have F__law_judged_so : Fnd P w K mg base 9 "_law_judged_so" s__law_judged_so ["_law_thing", "_law_low", "_law_high"] sp__law_judged_so := ⟨_, fd17, f17, ok__law_judged_so GB F__law_is_count F__law_is_tuple F__law_is_word F__law_number_of F__law_same F_is_cell F_is_name F_is_number F_is_place F_number_in f17, m17, b17⟩
  exact ok_law GB F__law_bag F__law_count F__law_draw F__law_figures F__law_is_count F__law_judged_so F__law_odd F__law_same F__law_word F_is_cell F_is_name F_is_number F_is_place F_number_in f18
end K01
open PySem PySem.W PySem.Calls PyProof.Rows
theorem PySem.Challenge.cw_highestsky_k01_words_judged_holds : PySem.Challenge.rw_highestsky_k01_words_judged.Holds := by
  w_on; o_law
  refine HandSHeadRun.head_any (r := OpenLaw.row PySem.Challenge.rw_highestsky_k01_words_judged) (q := view (OpenLaw.row PySem.Challenge.rw_highestsky_k01_words_judged).prog [26]) (H := K01.hk) (ob := K01.ob) (M := 6000) (loose := K01.loo) (d := HandSHeadRun.topDef (OpenLaw.row PySem.Challenge.rw_highestsky_k01_words_judged).prog 26) (kwd := []) K01.ob_eq
    (by kernel_rfl) (fun s => by kernel_rfl) K01.run (by kernel_rfl) (by kernel_rfl) (by kernel_rfl) (by rfl) (by first | assumption | decide +kernel) (by decide +kernel) ⟨rfl, rfl, rfl, rfl, rfl, by decide +kernel⟩ ?hw ?hc
  case hw => w_witness2
  case hc =>
    refine L2.walk_ofE (l := PySem.Challenge.rw_highestsky_k01_words_judged) (n := 63) (k := 10) (x := "_law_script") (CX := L2.CX0) rfl (by decide) (by kernel_rfl) ⟨rfl, by decide, by decide⟩ ?F (fun _ _ _ _ z => z)
    intro w mg fa h Y G hmg0
    obtain ⟨K, KX, c⟩ := Y
    have hmg : mg ("law" : PySem.Str) = some (.ref fa) := by
      have e : (HandSHeadRun.topDef (OpenLaw.row PySem.Challenge.rw_highestsky_k01_words_judged).prog 26).name = ("law" : PySem.Str) := by kernel_rfl
      rw [← e]
      exact hmg0
    obtain ⟨fd, hb, hF⟩ := K01.facts (P := (PySem.Challenge.rw_highestsky_k01_words_judged).prog) (w := w) KX G hmg c
    exact ⟨K, fd, DL.up0 K K01.sp_law, KX, hb, fun H a ns hl _ hS => DL.law_in hl hS, hF⟩
