import PyProof.Rows.All
import Wide.All
import OpenK.AllK
import Wide.FinOn
import HandS.ForMost
import HandS.Exc
import HandS.WordsExc
import HandS.IsInst
import HandS.Flow
import HandS.Lambda
import HandS.TupAny
import HandS.Zip
import HandS.Defaults
import HandS.Replace
import HandS.ExcCtx
import HandS.ExcInit
import HandS.ExcField
import HandS.HotCalls
import HandS.StrMore
import HandS.HeadHook4
import HandS.WrittenGet
import HandS.ExcIs
import HandS.HeadWalk
import HandS.Head0
import HandS.Head1
import HandS.Head2
import HandS.HeadEnd
import HandS.HeadHook1
import HandS.HeadHook2
import PySem.Challenge.RW_highestsky_k02_winds_and_directions
set_option Elab.async false
set_option linter.all false
set_option maxRecDepth 100000
set_option maxHeartbeats 0
/-! The data layer, part a: data without addresses, an owned store, and readings over both. -/
namespace DL
open PySem L2

inductive D where
  | non | bl (b : Bool) | int (i : Int) | str (s : Str)
  | lst (r : Nat) (xs : List D) | tup (xs : List D)
  | dct (kvs : List (D × D))
  | obj (n : Str) (fs : List (Str × D))
  | ref (a : Addr) | ty (n : String)
  | scr (ns : List Int)
  | exc (n : Str) (fs : List (Str × D))
  | cls (n : Str)

/-- what is owned (may still be changed) -/
inductive MO where
  | lst (xs : List D)
  | bag
  | dK (kvs : List (Key × D))
  | dT (kvs : List (List Key × D))
  | ins (n : Str) (fs : List (Str × D))
abbrev Mu := Addr → Option MO
/-- a world: what is hidden (it stands as it is), what is lent (by regions), the exception that is handled (its address, class, dict), the classes by their names, the tables of code objects, what is owned, the heap -/
structure Wd where
  hd : Hp
  ln : Nat → Hp
  ex : Option (Addr × Addr × Addr)
  cl : Str → Addr
  tb : List (Addr × Str)
  M : Mu
  H : Hp
structure Fr (w : Wd) (a : Addr) : Prop where
  m : w.M a = none
  h : w.hd a = none
  l : ∀ r, w.ln r a = none
def keyD : Key → D
  | .inl i => .int i
  | .inr x => .str x
def tkeyD (ks : List Key) : D := .tup (ks.map keyD)

/-- a list, a tuple that is not owned -/
def LsAt (w : Wd) (r : Nat) (a : Addr) (xs : List V) : Prop := w.H a = some (.lst xs) ∧ ((r = 0 ∧ Fr w a) ∨ (r ≠ 0 ∧ w.ln r a = some (.lst xs)))
def TuAt (K : PySem.W.Frag) (w : Wd) (a : Addr) (xs : List V) : Prop := (Fr w a ∧ w.H a = some (.tup xs)) ∨ ∀ H', SqT K H' a xs
/-- the script: a list that is read alone -/
def ScAt (K : PySem.W.Frag) (w : Wd) (a : Addr) (xs : List V) : Prop := (Fr w a ∧ Rd w.H a (.lst xs)) ∨ ∀ H', SqL K H' a xs
/-- a dict, locked or not -/
def unl : HO → HO
  | .frz _ (.dK k) => .dK k
  | .frz _ (.dT k) => .dT k
  | u => u
theorem unl_lst {u : HO} {xs : List V} (h : unl u = .lst xs) : u = .lst xs := by
  unfold unl at h
  split at h <;> first | exact h | cases h
theorem unl_frz {u : HO} {o : Obj} {xs : List V} (h : unl u = .frz o (.lst xs)) : u = .frz o (.lst xs) := by
  unfold unl at h
  split at h <;> first | exact h | cases h
theorem unl_tup {u : HO} {xs : List V} (h : unl u = .tup xs) : u = .tup xs := by
  unfold unl at h
  split at h <;> first | exact h | cases h
theorem unl_xd {u : HO} {xs : List (Str × V)} (h : unl u = .xd xs) : u = .xd xs := by
  unfold unl at h
  split at h <;> first | exact h | cases h
theorem unl_ins {u : HO} {C dx : Addr} {xs : List (Str × V)} (h : unl u = .ins C dx xs) : u = .ins C dx xs := by
  unfold unl at h
  split at h <;> first | exact h | cases h
/-- at a stands this, locked or not -/
def Sd (H : Hp) (a : Addr) (u : HO) : Prop := ∃ u', H a = some u' ∧ unl u' = u

/-! data that stands in the heap, in nothing that is owned -/
mutual
def Rp (K : PySem.W.Frag) (w : Wd) : D → V → Prop
  | .non, v => v = .non
  | .bl b, v => v = .bl b
  | .int i, v => v = .int i
  | .str x, v => v = .str x
  | .ref a, v => v = .ref a
  | .ty n, v => v = .ty n
  | .scr ns, v => ∃ a, v = .ref a ∧ ScAt K w a (ns.map V.int)
  | .lst r ds, v => ∃ a xs, v = .ref a ∧ LsAt w r a xs ∧ RpL K w ds xs
  | .tup ds, v => ∃ a xs, v = .ref a ∧ TuAt K w a xs ∧ RpL K w ds xs
  | .dct kvs, v => ∃ a, v = .ref a ∧ Fr w a ∧ ((∃ ks, Sd w.H a (.dK ks) ∧ RpK K w kvs (ks.map fun p => (keyD p.1, p.2))) ∨ (∃ ks, Sd w.H a (.dT ks) ∧ RpK K w kvs (ks.map fun p => (tkeyD p.1, p.2))))
  | .cls n, v => v = .ref (w.cl n)
  | .obj n fs, v => ∃ a dx vs, v = .ref a ∧ Fr w a ∧ w.H a = some (.ins (w.cl n) dx vs) ∧ RpF K w fs vs
  | .exc n fs, v => ∃ a dd vs, v = .ref a ∧ w.ex = some (a, w.cl n, dd) ∧ Fr w dd ∧ w.H dd = some (.xd vs) ∧ RpF K w fs vs
def RpL (K : PySem.W.Frag) (w : Wd) : List D → List V → Prop
  | [], vs => vs = []
  | d :: ds, vs => ∃ x r, vs = x :: r ∧ Rp K w d x ∧ RpL K w ds r
def RpK (K : PySem.W.Frag) (w : Wd) : List (D × D) → List (D × V) → Prop
  | [], vs => vs = []
  | (k, d) :: ds, vs => ∃ x r, vs = (k, x) :: r ∧ Rp K w d x ∧ RpK K w ds r
def RpF (K : PySem.W.Frag) (w : Wd) : List (Str × D) → List (Str × V) → Prop
  | [], vs => vs = []
  | (k, d) :: ds, vs => ∃ x r, vs = (k, x) :: r ∧ Rp K w d x ∧ RpF K w ds r
end
/-- what is free stands as it stood (but for a dict's lock), and is free; what is lent stays so -/
structure Kp (w w' : Wd) : Prop where
  fr : ∀ a u, Fr w a → w.H a = some u → (∀ ps, u ≠ .tbl ps) → Fr w' a ∧ Sd w'.H a (unl u)
  ln : ∀ r a u, w.ln r a = some u → w'.ln r a = some u ∧ (w.H a = some u → w'.H a = some u)
  ex : w'.ex = w.ex
  cl : w'.cl = w.cl
  tb : w'.tb = w.tb
theorem unl_tbl {u : HO} {ps : Array Value} (h : unl u = .tbl ps) : u = .tbl ps := by
  unfold unl at h
  split at h <;> first | exact h | cases h
theorem Kp.refl (w : Wd) : Kp w w := ⟨fun _ u h r _ => ⟨h, u, r, rfl⟩, fun _ _ _ h => ⟨h, id⟩, rfl, rfl, rfl⟩
theorem Kp.trans {w w1 w2 : Wd} (a : Kp w w1) (b : Kp w1 w2) : Kp w w2 := ⟨fun x u h r nt => by
  obtain ⟨h1, u1, r1, e1⟩ := a.fr x u h r nt
  obtain ⟨h2, u2, r2, e2⟩ := b.fr x u1 h1 r1 (fun ps z => by subst z; exact nt ps (unl_tbl e1.symm))
  exact ⟨h2, u2, r2, e2.trans e1⟩, fun r x u h => ⟨(b.ln r x u (a.ln r x u h).1).1, fun q => (b.ln r x u (a.ln r x u h).1).2 ((a.ln r x u h).2 q)⟩, b.ex.trans a.ex, b.cl.trans a.cl, b.tb.trans a.tb⟩
/-- all that is tracked and free stays; the lent ones, too -/
theorem Kp.of {w w' : Wd} (h : ∀ a u, Fr w a → w.H a = some u → (∀ ps, u ≠ .tbl ps) → Fr w' a ∧ w'.H a = some u) (l : ∀ r a u, w.ln r a = some u → w'.ln r a = some u ∧ (w.H a = some u → w'.H a = some u)) (e : w'.ex = w.ex) (c : w'.cl = w.cl) (t : w'.tb = w.tb) : Kp w w' := ⟨fun a u hm e n => ⟨(h a u hm e n).1, u, (h a u hm e n).2, rfl⟩, l, e, c, t⟩
section
variable {w w' : Wd} {a C dx : Addr} {r : Nat}
theorem Kp.lst {xs : List V} (k : Kp w w') (h : LsAt w r a xs) : LsAt w' r a xs := by
  obtain ⟨hH, ⟨h0, hf⟩ | ⟨h0, hl⟩⟩ := h
  · obtain ⟨h1, u, e, q⟩ := k.fr a _ hf hH (fun _ z => nomatch z)
    exact ⟨by rw [e, unl_lst q], .inl ⟨h0, h1⟩⟩
  · obtain ⟨h1, h2⟩ := k.ln r a _ hl
    exact ⟨h2 hH, .inr ⟨h0, h1⟩⟩
theorem Kp.tup {K : PySem.W.Frag} {xs : List V} (k : Kp w w') (h : TuAt K w a xs) : TuAt K w' a xs := by
  rcases h with h | h
  · obtain ⟨h1, u, e, q⟩ := k.fr a _ h.1 h.2 (fun _ z => nomatch z)
    exact .inl ⟨h1, by rw [e, unl_tup q]⟩
  · exact .inr h
theorem Kp.scr {K : PySem.W.Frag} {xs : List V} (k : Kp w w') (h : ScAt K w a xs) : ScAt K w' a xs := by
  rcases h with ⟨h0, h | ⟨o, h⟩⟩ | h
  · obtain ⟨h1, u, e, q⟩ := k.fr a _ h0 h (fun _ z => nomatch z)
    exact .inl ⟨h1, .inl (by rw [e, unl_lst q])⟩
  · obtain ⟨h1, u, e, q⟩ := k.fr a _ h0 h (fun _ z => nomatch z)
    exact .inl ⟨h1, .inr ⟨o, by rw [e, unl_frz q]⟩⟩
  · exact .inr h
theorem Kp.sd {u : HO} (k : Kp w w') (hm : Fr w a) (h : Sd w.H a u) (nt : ∀ ps, u ≠ .tbl ps) : Fr w' a ∧ Sd w'.H a u := by
  obtain ⟨u1, e, rfl⟩ := h
  obtain ⟨h1, u2, e2, q⟩ := k.fr a _ hm e (fun ps z => nt ps (by rw [z]; rfl))
  exact ⟨h1, u2, e2, q⟩
theorem Kp.ins {xs : List (Str × V)} (k : Kp w w') (hm : Fr w a) (h : w.H a = some (.ins C dx xs)) : Fr w' a ∧ w'.H a = some (.ins C dx xs) := by
  obtain ⟨h1, u2, e2, q⟩ := k.fr a _ hm h (fun _ z => nomatch z)
  exact ⟨h1, by rw [e2, unl_ins q]⟩
theorem Kp.xd {xs : List (Str × V)} (k : Kp w w') (hm : Fr w a) (h : w.H a = some (.xd xs)) : Fr w' a ∧ w'.H a = some (.xd xs) := by
  obtain ⟨h1, u2, e2, q⟩ := k.fr a _ hm h (fun _ z => nomatch z)
  exact ⟨h1, by rw [e2, unl_xd q]⟩
end
/-- the heap alone, otherwise -/
abbrev Wd.at (w : Wd) (H : Hp) : Wd := { w with H := H }
theorem Fr.at {w : Wd} {a : Addr} {H : Hp} (h : Fr w a) : Fr (w.at H) a := ⟨h.m, h.h, h.l⟩
/-- more in the heap -/
theorem Kp.ex' {w : Wd} {H' : Hp} (h : ∀ a u, w.H a = some u → H' a = some u) : Kp w (w.at H') := Kp.of (fun a u hm e _ => ⟨hm.at, h a u e⟩) (fun _ a u e => ⟨e, h a u⟩) rfl rfl rfl
/-- a new object that is free -/
theorem Kp.new {w : Wd} {p : Addr} {o : HO} (h : w.H p = none) : Kp w (w.at (upd w.H p o)) := Kp.ex' fun a u e => by rw [upd_ne (ne_of_none e h)]; exact e

mutual
theorem Rp.mono {K : PySem.W.Frag} {w w' : Wd} (k : Kp w w') : ∀ {d : D} {v : V}, Rp K w d v → Rp K w' d v
  | .non, _, h => h
  | .bl _, _, h => h
  | .int _, _, h => h
  | .str _, _, h => h
  | .ref _, _, h => h
  | .ty _, _, h => h
  | .scr ns, v, h => by
    obtain ⟨a, rfl, h1⟩ := h
    exact ⟨a, rfl, k.scr h1⟩
  | .lst _ ds, v, h => by
    obtain ⟨a, xs, rfl, hl, hr⟩ := h
    exact ⟨a, xs, rfl, k.lst hl, RpL.mono k hr⟩
  | .exc C fs, v, h => by
    obtain ⟨a, dd, vs, rfl, he, hm, h1, h2⟩ := h
    exact ⟨a, dd, vs, rfl, by rw [k.ex, k.cl]; exact he, (k.xd hm h1).1, (k.xd hm h1).2, RpF.mono k h2⟩
  | .tup ds, v, h => by
    obtain ⟨a, xs, rfl, hl, hr⟩ := h
    exact ⟨a, xs, rfl, k.tup hl, RpL.mono k hr⟩
  | .dct kvs, v, h => by
    obtain ⟨a, rfl, hm, hl⟩ := h
    rcases hl with ⟨ks, h1, h2⟩ | ⟨ks, h1, h2⟩
    · exact ⟨a, rfl, (k.sd hm h1 (fun _ z => by cases z)).1, .inl ⟨ks, (k.sd hm h1 (fun _ z => by cases z)).2, RpK.mono k h2⟩⟩
    · exact ⟨a, rfl, (k.sd hm h1 (fun _ z => by cases z)).1, .inr ⟨ks, (k.sd hm h1 (fun _ z => by cases z)).2, RpK.mono k h2⟩⟩
  | .cls n, v, h => by
    show v = .ref (w'.cl n)
    rw [k.cl]; exact h
  | .obj C fs, v, h => by
    obtain ⟨a, dx, vs, rfl, hm, h1, h2⟩ := h
    exact ⟨a, dx, vs, rfl, (k.ins hm h1).1, by rw [k.cl]; exact (k.ins hm h1).2, RpF.mono k h2⟩
theorem RpL.mono {K : PySem.W.Frag} {w w' : Wd} (k : Kp w w') : ∀ {ds : List D} {vs : List V}, RpL K w ds vs → RpL K w' ds vs
  | [], _, h => h
  | d :: ds, vs, h => by
    obtain ⟨x, r, rfl, h1, h2⟩ := h
    exact ⟨x, r, rfl, Rp.mono k h1, RpL.mono k h2⟩
theorem RpK.mono {K : PySem.W.Frag} {w w' : Wd} (k : Kp w w') : ∀ {ds : List (D × D)} {vs : List (D × V)}, RpK K w ds vs → RpK K w' ds vs
  | [], _, h => h
  | (q, d) :: ds, vs, h => by
    obtain ⟨x, r, rfl, h1, h2⟩ := h
    exact ⟨x, r, rfl, Rp.mono k h1, RpK.mono k h2⟩
theorem RpF.mono {K : PySem.W.Frag} {w w' : Wd} (k : Kp w w') : ∀ {ds : List (Str × D)} {vs : List (Str × V)}, RpF K w ds vs → RpF K w' ds vs
  | [], _, h => h
  | (q, d) :: ds, vs, h => by
    obtain ⟨x, r, rfl, h1, h2⟩ := h
    exact ⟨x, r, rfl, Rp.mono k h1, RpF.mono k h2⟩
end
section
variable {K : PySem.W.Frag} {w w' : Wd}
theorem RpL.length : ∀ {ds : List D} {vs : List V}, RpL K w ds vs → vs.length = ds.length
  | [], vs, h => by obtain rfl : vs = [] := h; rfl
  | d :: ds, vs, h => by
    obtain ⟨x, r, rfl, _, h2⟩ := h
    rw [List.length_cons, List.length_cons, RpL.length h2]
theorem RpL.get : ∀ {ds : List D} {vs : List V} {i : Nat} {v : V}, RpL K w ds vs → vs[i]? = some v → ∃ d, ds[i]? = some d ∧ Rp K w d v
  | [], vs, i, v, h, e => by obtain rfl : vs = [] := h; simp at e
  | d :: ds, vs, 0, v, h, e => by
    obtain ⟨x, r, rfl, h1, _⟩ := h
    obtain rfl : x = v := by simpa using e
    exact ⟨d, rfl, h1⟩
  | d :: ds, vs, i + 1, v, h, e => by
    obtain ⟨x, r, rfl, _, h2⟩ := h
    exact RpL.get (i := i) h2 (by simpa using e)
theorem RpL.at : ∀ {ds : List D} {vs : List V} {i : Nat} {d : D}, RpL K w ds vs → ds[i]? = some d → ∃ v, vs[i]? = some v ∧ Rp K w d v
  | [], vs, i, d, h, e => by simp at e
  | d :: ds, vs, 0, d', h, e => by
    obtain ⟨x, r, rfl, h1, _⟩ := h
    obtain rfl : d = d' := by simpa using e
    exact ⟨x, rfl, h1⟩
  | d :: ds, vs, i + 1, d', h, e => by
    obtain ⟨x, r, rfl, _, h2⟩ := h
    exact RpL.at (i := i) h2 (by simpa using e)
theorem RpL.append : ∀ {ds es : List D} {vs ws : List V}, RpL K w ds vs → RpL K w es ws → RpL K w (ds ++ es) (vs ++ ws)
  | [], es, vs, ws, h, g => by obtain rfl : vs = [] := h; exact g
  | d :: ds, es, vs, ws, h, g => by
    obtain ⟨x, r, rfl, h1, h2⟩ := h
    exact ⟨x, r ++ ws, rfl, h1, RpL.append h2 g⟩
theorem RpL.take : ∀ {ds : List D} {vs : List V} (n : Nat), RpL K w ds vs → RpL K w (ds.take n) (vs.take n)
  | ds, vs, 0, h => by rw [List.take_zero, List.take_zero]; rfl
  | [], vs, n + 1, h => by obtain rfl : vs = [] := h; exact rfl
  | d :: ds, vs, n + 1, h => by
    obtain ⟨x, r, rfl, h1, h2⟩ := h
    exact ⟨x, r.take n, rfl, h1, RpL.take n h2⟩
theorem RpL.drop : ∀ {ds : List D} {vs : List V} (n : Nat), RpL K w ds vs → RpL K w (ds.drop n) (vs.drop n)
  | ds, vs, 0, h => h
  | [], vs, n + 1, h => by obtain rfl : vs = [] := h; exact rfl
  | d :: ds, vs, n + 1, h => by
    obtain ⟨x, r, rfl, h1, h2⟩ := h
    exact RpL.drop n h2
theorem RpL.one {d : D} {v : V} (h : Rp K w d v) : RpL K w [d] [v] := ⟨v, [], rfl, h, rfl⟩
theorem LsAt.sq {r : Nat} {a : Addr} {xs : List V} (h : LsAt w r a xs) : SqL K w.H a xs := .inl (.inl h.1)
theorem TuAt.sq {a : Addr} {xs : List V} (h : TuAt K w a xs) : SqT K w.H a xs := h.elim (fun z => .inl (.inl z.2)) fun z => z w.H
theorem LsAt.mono {r : Nat} {a : Addr} {xs : List V} (k : Kp w w') (h : LsAt w r a xs) : LsAt w' r a xs := k.lst h
theorem LsAt.free {a : Addr} {xs : List V} (h : Fr w a) (e : w.H a = some (.lst xs)) : LsAt w 0 a xs := ⟨e, .inl ⟨rfl, h⟩⟩
theorem TuAt.mono {a : Addr} {xs : List V} (k : Kp w w') (h : TuAt K w a xs) : TuAt K w' a xs := k.tup h
end

/-! ### the owned store -/
/-- a law's bag: the cells, how many were taken, the rest of a great cell, a mixed number -/
def BagAt (w : Wd) (a : Addr) : Prop := ∃ (c : Addr) (cs : List Int) (i r m : Int), w.H a = some (.lst [.ref c, .int i, .int r, .int m]) ∧ LsAt w 0 c (cs.map V.int) ∧ cs.length ≤ 63 ∧ 0 ≤ i
/-- all but a table stands -/
def MOk (K : PySem.W.Frag) (w : Wd) (a : Addr) : MO → Prop
  | .lst ds => ∃ xs, w.H a = some (.lst xs) ∧ RpL K w ds xs
  | .bag => BagAt w a
  | .dK kvs => ∃ ks, w.H a = some (.dK ks) ∧ RpK K w (kvs.map fun p => (keyD p.1, p.2)) (ks.map fun p => (keyD p.1, p.2)) ∧ ks.map (·.1) = kvs.map (·.1)
  | .dT kvs => ∃ ks, w.H a = some (.dT ks) ∧ RpK K w (kvs.map fun p => (tkeyD p.1, p.2)) (ks.map fun p => (tkeyD p.1, p.2)) ∧ ks.map (·.1) = kvs.map (·.1)
  | .ins n fs => ∃ dx vs, w.H a = some (.ins (w.cl n) dx vs) ∧ RpF K w fs vs
structure Ok (K : PySem.W.Frag) (w : Wd) : Prop where
  mo : ∀ a m, w.M a = some m → MOk K w a m
  hid : ∀ a u, w.hd a = some u → w.H a = some u
  ap : ∀ a m, w.M a = some m → w.hd a = none
  len : ∀ r a u, w.ln r a = some u → w.H a = some u
  lap : ∀ r a u, w.ln r a = some u → w.M a = none ∧ w.hd a = none
  lfr : ∃ n, ∀ r, n ≤ r → ∀ a, w.ln r a = none
  hl : ∀ a u, w.hd a = some u → ∃ xs, u = .lst xs
  ll : ∀ r a u, w.ln r a = some u → ∃ xs, u = .lst xs
  tabs : LamX.Tabs w.tb w.H
theorem unl_ext {u : HO} {φ : Heap → Prop} (h : unl u = .ext φ) : u = .ext φ := by
  unfold unl at h
  split at h <;> first | exact h | cases h
theorem MOk.mono {K : PySem.W.Frag} {w w' : Wd} {a : Addr} {m : MO} (k : Kp w w') (e : w'.H a = w.H a) (h : MOk K w a m) : MOk K w' a m := by
  cases m with
  | lst ds => obtain ⟨xs, h1, h2⟩ := h; exact ⟨xs, e.trans h1, RpL.mono k h2⟩
  | bag => obtain ⟨c, cs, i, r, m, h1, h2, h3⟩ := h; exact ⟨c, cs, i, r, m, e.trans h1, h2.mono k, h3⟩
  | dK kvs => obtain ⟨xs, h1, h2, h3⟩ := h; exact ⟨xs, e.trans h1, RpK.mono k h2, h3⟩
  | dT kvs => obtain ⟨xs, h1, h2, h3⟩ := h; exact ⟨xs, e.trans h1, RpK.mono k h2, h3⟩
  | ins C fs => obtain ⟨dx, vs, h1, h2⟩ := h; exact ⟨dx, vs, by rw [k.cl]; exact e.trans h1, RpF.mono k h2⟩
theorem Ok.tracked {K : PySem.W.Frag} {w : Wd} {a : Addr} {m : MO} (o : Ok K w) (h : w.M a = some m) : ∃ u, w.H a = some u := by
  have z := o.mo a m h
  cases m with
  | lst ds => obtain ⟨xs, h1, _⟩ := z; exact ⟨_, h1⟩
  | bag => obtain ⟨_, _, _, _, _, h1, _⟩ := z; exact ⟨_, h1⟩
  | dK kvs => obtain ⟨_, h1, _⟩ := z; exact ⟨_, h1⟩
  | dT kvs => obtain ⟨_, h1, _⟩ := z; exact ⟨_, h1⟩
  | ins C fs => obtain ⟨_, _, h1, _⟩ := z; exact ⟨_, h1⟩
/-- what is owned is no table, no code object -/
theorem Ok.plain {K : PySem.W.Frag} {w : Wd} {a : Addr} {m : MO} (o : Ok K w) (h : w.M a = some m) : ∃ u, w.H a = some u ∧ (∀ ps, u ≠ .tbl ps) ∧ ∀ φ, u ≠ .ext φ := by
  have z := o.mo a m h
  cases m with
  | lst ds => obtain ⟨xs, h1, _⟩ := z; exact ⟨_, h1, ⟨fun _ z => (by cases z), fun _ z => (by cases z)⟩⟩
  | bag => obtain ⟨_, _, _, _, _, h1, _⟩ := z; exact ⟨_, h1, ⟨fun _ z => (by cases z), fun _ z => (by cases z)⟩⟩
  | dK kvs => obtain ⟨_, h1, _⟩ := z; exact ⟨_, h1, ⟨fun _ z => (by cases z), fun _ z => (by cases z)⟩⟩
  | dT kvs => obtain ⟨_, h1, _⟩ := z; exact ⟨_, h1, ⟨fun _ z => (by cases z), fun _ z => (by cases z)⟩⟩
  | ins C fs => obtain ⟨_, _, h1, _⟩ := z; exact ⟨_, h1, ⟨fun _ z => (by cases z), fun _ z => (by cases z)⟩⟩
theorem tabs_upd {T : List (Addr × Str)} {H : Hp} {a : Addr} {u u' : HO} (t : LamX.Tabs T H) (e : H a = some u) (h1 : ∀ ps, u ≠ .tbl ps) (h2 : ∀ φ, u ≠ .ext φ) : LamX.Tabs T (upd H a u') := fun p hp => by
  obtain ⟨ps, g1, g2, g3⟩ := t p hp
  refine ⟨ps, ?_, g2, fun pos cv hc => ?_⟩
  · rw [upd_ne (fun z => by rw [z, e] at g1; exact h1 ps (Option.some.inj g1))]; exact g1
  · obtain ⟨c, q1, q2⟩ := g3 pos cv hc
    refine ⟨c, q1, ?_⟩
    rw [upd_ne (fun z => by rw [z, e] at q2; exact h2 _ (Option.some.inj q2))]; exact q2
/-- a new object is free -/
theorem Ok.fresh {K : PySem.W.Frag} {w : Wd} {p : Addr} (o : Ok K w) (h : w.H p = none) : Fr w p := by
  refine ⟨?_, ?_, fun r => ?_⟩
  · cases e : w.M p with
    | none => rfl
    | some m =>
      obtain ⟨u, q⟩ := o.tracked e
      rw [h] at q; cases q
  · cases e : w.hd p with
    | none => rfl
    | some m =>
      have q := o.hid p m e
      rw [h] at q; cases q
  · cases e : w.ln r p with
    | none => rfl
    | some m =>
      have q := o.len r p m e
      rw [h] at q; cases q
theorem Ok.keep {K : PySem.W.Frag} {w : Wd} {H' : Hp} (o : Ok K w) (h : ∀ a u, w.H a = some u → H' a = some u) : Ok K (w.at H') where
  mo := fun a m e => by
    obtain ⟨u, q⟩ := o.tracked e
    exact (o.mo a m e).mono (Kp.ex' h) (by show H' a = _; rw [h a u q, q])
  hid := fun a u e => h a u (o.hid a u e)
  ap := o.ap
  len := fun r a u e => h a u (o.len r a u e)
  lap := o.lap
  lfr := o.lfr
  hl := o.hl
  ll := o.ll
  tabs := o.tabs.ext h
theorem Ok.new {K : PySem.W.Frag} {w : Wd} {p : Addr} {o : HO} (k : Ok K w) (h : w.H p = none) : Ok K (w.at (upd w.H p o)) := k.keep fun a u e => by
  rw [upd_ne (ne_of_none e h)]; exact e
end DL
/-! The data layer, part b: readings over data, expressions. -/
namespace DL
open PySem L2

abbrev DEnv := List (Option D)
abbrev DK := D → Mu → Prop
abbrev DE := DEnv → Mu → DK → Prop
abbrev DT := DEnv → Mu → (Bool → Mu → Prop) → Prop
abbrev DA := DEnv → Mu → (List D → Mu → Prop) → Prop
def RE (K : PySem.W.Frag) (w : Wd) (ρ : DEnv) (σ : St) : Prop := σ.length = ρ.length ∧ ∀ (i : Nat) (d : D), ρ[i]? = some (some d) → ∃ v, σ[i]? = some (some v) ∧ Rp K w d v
/-- c: the entry of the def -/
structure At (K : PySem.W.Frag) (c w : Wd) (ρ : DEnv) (σ : St) : Prop where
  kp : Kp c w
  re : RE K w ρ σ
  ok : Ok K w
  hd : w.hd = c.hd
  ln : w.ln = c.ln
/-- what is behind: what stood is kept -/
structure Bh (K : PySem.W.Frag) (w w' : Wd) : Prop where
  kp : Kp w w'
  ok : Ok K w'
  hd : w'.hd = w.hd
  ln : w'.ln = w.ln
/-- what never changes is the same -/
structure SC (c c' : Wd) : Prop where
  cl : c'.cl = c.cl
  ex : c'.ex = c.ex
  tb : c'.tb = c.tb
/-- classes, tables; nothing is handled -/
structure Cc (cl : Str → Addr) (tb : List (Addr × Str)) (c : Wd) : Prop where
  cl : c.cl = cl
  ex : c.ex = none
  tb : c.tb = tb
theorem Kp.sc {c c' : Wd} (k : Kp c c') : SC c c' := ⟨k.cl, k.ex, k.tb⟩
theorem SC.trans {a b c : Wd} (x : SC a b) (y : SC b c) : SC a c := ⟨y.cl.trans x.cl, y.ex.trans x.ex, y.tb.trans x.tb⟩
theorem Cc.sc {cl : Str → Addr} {tb : List (Addr × Str)} {c c' : Wd} (h : Cc cl tb c) (s : SC c c') : Cc cl tb c' := ⟨s.cl.trans h.cl, s.ex.trans h.ex, s.tb.trans h.tb⟩
section
variable {K : PySem.W.Frag} {c w w' w'' : Wd} {ρ : DEnv} {σ : St}
theorem RE.mono (k : Kp w w') (r : RE K w ρ σ) : RE K w' ρ σ := ⟨r.1, fun i d e => let ⟨v, a, b⟩ := r.2 i d e; ⟨v, a, b.mono k⟩⟩
theorem RE.set {i : Nat} {d : D} {v : V} (r : RE K w ρ σ) (h : Rp K w d v) : RE K w (ρ.set i (some d)) (σ.set i (some v)) := by
  refine ⟨by rw [List.length_set, List.length_set]; exact r.1, fun j e q => ?_⟩
  by_cases hj : i = j
  · subst hj
    have hl : i < ρ.length := by
      have := (List.getElem?_eq_some_iff.mp q).1
      rwa [List.length_set] at this
    rw [List.getElem?_set_self hl] at q
    obtain rfl : d = e := by simpa using q
    exact ⟨v, by rw [List.getElem?_set_self (by rw [r.1]; exact hl)], h⟩
  · rw [List.getElem?_set_ne hj] at q
    obtain ⟨w, a, b⟩ := r.2 j e q
    exact ⟨w, by rw [List.getElem?_set_ne hj]; exact a, b⟩
theorem Bh.refl (o : Ok K w) : Bh K w w := ⟨Kp.refl w, o, rfl, rfl⟩
theorem Bh.trans (a : Bh K w w') (b : Bh K w' w'') : Bh K w w'' := ⟨a.kp.trans b.kp, b.ok, b.hd.trans a.hd, b.ln.trans a.ln⟩
theorem Bh.new {p : Addr} {o : HO} (k : Ok K w) (h : w.H p = none) : Bh K w (w.at (upd w.H p o)) := ⟨Kp.new h, k.new h, rfl, rfl⟩
theorem At.next (a : At K c w ρ σ) (b : Bh K w w') : At K c w' ρ σ := ⟨a.kp.trans b.kp, a.re.mono b.kp, b.ok, b.hd.trans a.hd, b.ln.trans a.ln⟩
theorem At.bh (a : At K c w ρ σ) : Bh K c w := ⟨a.kp, a.ok, a.hd, a.ln⟩
theorem At.set {i : Nat} {d : D} {v : V} (a : At K c w ρ σ) (h : Rp K w d v) : At K c w (ρ.set i (some d)) (σ.set i (some v)) := ⟨a.kp, a.re.set h, a.ok, a.hd, a.ln⟩
end
/-- what is wanted of values, from what is wanted of data -/
def Wv (K : PySem.W.Frag) (w : Wd) (Q' : DK) (Q : VK) : Prop := ∀ d w' v, Q' d w'.M → Bh K w w' → Rp K w' d v → Q v w'.H
section
variable {K : PySem.W.Frag} {w w1 : Wd} {Q' : DK} {Q : VK}
theorem Wv.back (k : Wv K w Q' Q) (b : Bh K w w1) : Wv K w1 Q' Q := fun d w' v q b' r => k d w' v q (b.trans b') r
theorem Wv.here {d : D} {v : V} (k : Wv K w Q' Q) (o : Ok K w) (q : Q' d w.M) (r : Rp K w d v) : Q v w.H := k d w v q (Bh.refl o) r
/-- a new object -/
theorem Wv.new {d : D} {p : Addr} {o : HO} (k : Wv K w Q' Q) (ok : Ok K w) (h : w.H p = none) (q : Q' d w.M) (r : Rp K (w.at (upd w.H p o)) d (.ref p)) : Q (.ref p) (upd w.H p o) := k d (w.at (upd w.H p o)) (.ref p) q (Bh.new ok h) r
end
def lift (K : PySem.W.Frag) (c : Wd) (t : DE) : TE := fun σ H Q => ∃ ρ w Q', w.H = H ∧ At K c w ρ σ ∧ t ρ w.M Q' ∧ Wv K w Q' Q
def liftT (K : PySem.W.Frag) (c : Wd) (t : DT) : TT := fun σ H Q => ∃ ρ w Q', w.H = H ∧ At K c w ρ σ ∧ t ρ w.M Q' ∧ ∀ b w', Q' b w'.M → Bh K w w' → Q b w'.H
def liftA (K : PySem.W.Frag) (c : Wd) (t : DA) : TA := fun σ H Q => ∃ ρ w Q', w.H = H ∧ At K c w ρ σ ∧ t ρ w.M Q' ∧ ∀ ds w' vs, Q' ds w'.M → Bh K w w' → RpL K w' ds vs → Q vs w'.H
abbrev PD (c : Wd) (X : Cx) (e : Expr) (t : DE) : Prop := PE X e (lift X.K c t)
abbrev PDT (c : Wd) (X : Cx) (e : Expr) (t : DT) : Prop := PT X e (liftT X.K c t)
abbrev PDW (c : Wd) (X : Cx) (e : Expr) (t : DT) : Prop := PW X e (liftT X.K c t)
abbrev PDA (c : Wd) (X : Cx) (es : List Expr) (t : DA) : Prop := PA X es (liftA X.K c t)
theorem PE_imp {X : Cx} {e : Expr} {t t' : TE} (h : PE X e t) (i : ∀ σ H Q, t' σ H Q → t σ H Q) : PE X e t' := ⟨fun pins s σ H Q I q => h.run pins s σ H Q I (i σ H Q q)⟩
theorem PT_imp {X : Cx} {e : Expr} {t t' : TT} (h : PT X e t) (i : ∀ σ H Q, t' σ H Q → t σ H Q) : PT X e t' := ⟨fun pins s σ H Q I q => h.run pins s σ H Q I (i σ H Q q)⟩
theorem PW_imp {X : Cx} {e : Expr} {t t' : TT} (h : PW X e t) (i : ∀ σ H Q, t' σ H Q → t σ H Q) : PW X e t' := ⟨fun wh pins s σ H Q I q => h.run wh pins s σ H Q I (i σ H Q q)⟩
theorem PA_imp {X : Cx} {es : List Expr} {t t' : TA} (h : PA X es t) (i : ∀ σ H Q, t' σ H Q → t σ H Q) : PA X es t' := ⟨fun pos pins s σ H Q I q => h.run pos pins s σ H Q I (i σ H Q q)⟩

/-! ### names, constants -/
@[simp] def dVar (i : Nat) : DE := fun ρ M Q => match ρ[i]? with | some (some d) => Q d M | _ => False
@[simp] def dC (d : D) : DE := fun _ M Q => Q d M
section
variable {X : Cx} {c : Wd}
theorem pd_var (i : Nat) {x : Str} {pos : Pos} (hN : X.N[i]? = some x := by rfl) (hv : Vis X.env.scope x := by first | exact Or.inl rfl | exact Or.inr (Or.inl rfl) | exact Or.inr (Or.inr rfl)) (hd : (x == ("__debug__" : Str)) = false := by decide)
    (hcd : (x == ("__classdict__" : Str)) = false := by decide) : PD c X (.Name x pos) (dVar i) := PE_imp (pe_var hN hv hd hcd) fun σ H Q ⟨ρ, w, Q', hH, a, h, k⟩ => by
  subst hH
  unfold dVar at h
  cases e : ρ[i]? with
  | none => rw [e] at h; exact h.elim
  | some o =>
    rw [e] at h
    cases o with
    | none => exact h.elim
    | some d =>
      obtain ⟨v, h1, h2⟩ := a.re.2 i d e
      exact ⟨v, h1, k.here a.ok h h2⟩
theorem pd_of {e : Expr} {v : V} {d : D} (h : PE X e (tC v)) (r : ∀ w, Rp X.K w d v) : PD c X e (dC d) := PE_imp h fun σ H Q ⟨ρ, w, Q', hH, a, h, k⟩ => hH ▸ k.here a.ok h (r w)
theorem pd_int {i j pos} : PD c X (.Constant (.int i) j pos) (dC (.int i)) := pd_of pe_int fun _ => rfl
theorem pd_bl {b j pos} : PD c X (.Constant (.bool b) j pos) (dC (.bl b)) := pd_of pe_bl fun _ => rfl
theorem pd_non {j pos} : PD c X (.Constant .none j pos) (dC .non) := pd_of pe_non fun _ => rfl
theorem pd_str {x j pos} : PD c X (.Constant (.str x) j pos) (dC (.str x)) := pd_of pe_str fun _ => rfl
/-- a name of the module: a constant -/
theorem pd_glob {x : Str} {v : V} {d : D} {u : Value} {pos : Pos} (hg : Gl X x) (hm : X.mg x = some u) (r : RelV v u) (rd : ∀ w, Rp X.K w d v) (hd : (x == ("__debug__" : Str)) = false := by decide) : PD c X (.Name x pos) (dC d) := pd_of (pe_glob hg hm r hd) rd

/-! ### operators -/
abbrev D2 := D → D → Mu → DK → Prop
@[simp] def dOp (g : D2) (ta tb : DE) : DE := fun ρ M Q => ta ρ M fun x M1 => tb ρ M1 fun y M2 => g x y M2 Q
def liftO (K : PySem.W.Frag) (g : D2) : R2 := fun x y H Q => ∃ w dx dy Q', w.H = H ∧ Ok K w ∧ Rp K w dx x ∧ Rp K w dy y ∧ g dx dy w.M Q' ∧ Wv K w Q' Q
abbrev OpD (X : Cx) (f : Value → Value → Sem Value) (g : D2) : Prop := OpR X f (liftO X.K g)
variable {a b e : Expr} {ta tb te : DE} {pos : Pos} {g g' : D2}
theorem op_imp {ρ : DEnv} {w : Wd} {Q' : DK} {K : PySem.W.Frag} {σ : St} {H : Hp} {Q : VK} (hH : w.H = H) (a : At K c w ρ σ) (h : dOp g ta tb ρ w.M Q') (k : Wv K w Q' Q) : tOp (liftO K g) (lift K c ta) (lift K c tb) σ H Q :=
  ⟨ρ, w, _, hH, a, h, fun d w1 v q b1 r => ⟨ρ, w1, _, rfl, a.next b1, q, fun e w2 v2 q2 b2 r2 => ⟨w2, d, e, Q', rfl, b2.ok, r.mono b2.kp, r2, q2, k.back (b1.trans b2)⟩⟩⟩
theorem pd_op {op : Operator} (ho : OpD X (binaryOp op) g) (ha : PD c X a ta) (hb : PD c X b tb) : PD c X (.BinOp a op b pos) (dOp g ta tb) := PE_imp (pe_op ho ha hb) fun _ _ _ ⟨_, _, _, hH, a, h, k⟩ => op_imp hH a h k
theorem pd_cmp {op : CmpOp} (ho : OpD X (compareOp op) g) (ha : PD c X a ta) (hb : PD c X b tb) (hm : behindInMarks op b = false := by first | exact nobehind _ (by decide) (by decide) | rfl) : PD c X (.Compare a [op] [b] pos) (dOp g ta tb) :=
  PE_imp (pe_cmpR ho ha hb hm) fun _ _ _ ⟨_, _, _, hH, a, h, k⟩ => op_imp hH a h k
/-- an answer that is a bool -/
@[simp] def isB (Q : Bool → Mu → Prop) : DK := fun d M => match d with | .bl k => Q k M | _ => False
@[simp] def dB (t : DE) : DT := fun ρ M Q => t ρ M (isB Q)
theorem Wv.isB {K : PySem.W.Frag} {w : Wd} {Q' : Bool → Mu → Prop} {Q : Bool → Hp → Prop} (k : ∀ b w', Q' b w'.M → Bh K w w' → Q b w'.H) : Wv K w (DL.isB Q') (fun x H' => ∃ k, x = .bl k ∧ Q k H') := fun d w' v q b r => by
  cases d with
  | bl z => obtain rfl : v = .bl z := r; exact ⟨z, rfl, k z w' q b⟩
  | _ => exact q.elim
theorem pdt_cmp {op : CmpOp} (ho : OpD X (compareOp op) g) (ha : PD c X a ta) (hb : PD c X b tb) (hm : behindInMarks op b = false := by first | exact nobehind _ (by decide) (by decide) | rfl) : PDT c X (.Compare a [op] [b] pos) (dB (dOp g ta tb)) :=
  PT_imp (pt_cmpR ho ha hb hm) fun _ _ _ ⟨_, _, _, hH, a, h, k⟩ => op_imp hH a h (Wv.isB k)
/-- a value that is a bool, as a test -/
theorem pdt_val (h : PD c X e te) (he : ∀ whole, isTrue e X.env whole = (do let v ← whole; standAt e.pos; holding [v] (truthy v)) := by intro _; rfl) : PDT c X e (dB te) :=
  PT_imp (pt_val h he) fun _ _ _ ⟨ρ, w, Q', hH, a, h, k⟩ => ⟨ρ, w, _, hH, a, h, Wv.isB k⟩

/-! ### and, or, not, if -/
variable {tA tB tC' : DT} {rest : List Expr}
@[simp] def dAnd (t u : DT) : DT := fun ρ M Q => t ρ M fun k M1 => if k = true then u ρ M1 Q else Q false M1
@[simp] def dOr (t u : DT) : DT := fun ρ M Q => t ρ M fun k M1 => if k = true then Q true M1 else u ρ M1 Q
@[simp] def dNot (t : DT) : DT := fun ρ M Q => t ρ M fun k M1 => Q (!k) M1
theorem pdw_one {op} (ha : PDT c X a tA) : PDW c X (.BoolOp op [a] pos) tA := by
  cases op with
  | And => exact pw_and1 ha
  | Or => exact pw_or1 ha
theorem pdw_and (ha : PDT c X a tA) (hb : PDW c X (.BoolOp .And (b :: rest) pos) tB) : PDW c X (.BoolOp .And (a :: b :: rest) pos) (dAnd tA tB) := PW_imp (pw_and ha hb) fun σ H Q ⟨ρ, w, Q', hH, a, h, k⟩ =>
  ⟨ρ, w, _, hH, a, h, fun z w1 q b1 => by
    cases z with
    | true => exact iteT ⟨ρ, w1, Q', rfl, a.next b1, q, fun b w' q b' => k b w' q (b1.trans b')⟩
    | false => exact iteF (k false w1 q b1)⟩
theorem pdw_or (ha : PDT c X a tA) (hb : PDW c X (.BoolOp .Or (b :: rest) pos) tB) : PDW c X (.BoolOp .Or (a :: b :: rest) pos) (dOr tA tB) := PW_imp (pw_or ha hb) fun σ H Q ⟨ρ, w, Q', hH, a, h, k⟩ =>
  ⟨ρ, w, _, hH, a, h, fun z w1 q b1 => by
    cases z with
    | false => exact iteF ⟨ρ, w1, Q', rfl, a.next b1, q, fun b w' q b' => k b w' q (b1.trans b')⟩
    | true => exact iteT (k true w1 q b1)⟩
theorem pdt_not (ha : PDT c X a tA) : PDT c X (.UnaryOp .Not a pos) (dNot tA) := PT_imp (pt_not ha) fun σ H Q ⟨ρ, w, Q', hH, a, h, k⟩ => ⟨ρ, w, _, hH, a, h, fun z w1 q b1 => k _ w1 q b1⟩
@[simp] def dAndV (t u : DE) : DE := fun ρ M Q => t ρ M fun d M1 => match d with | .bl k => if k = true then u ρ M1 Q else Q (.bl false) M1 | _ => False
@[simp] def dOrV (t u : DE) : DE := fun ρ M Q => t ρ M fun d M1 => match d with | .bl k => if k = true then Q (.bl true) M1 else u ρ M1 Q | _ => False
@[simp] def dNotV (t : DE) : DE := fun ρ M Q => t ρ M fun d M1 => match d with | .bl k => Q (.bl (!k)) M1 | _ => False
theorem pd_one {op} (h : PD c X a ta) : PD c X (.BoolOp op [a] pos) ta := pe_one h
theorem pd_and (ha : PD c X a ta) (hb : PD c X (.BoolOp .And (b :: rest) pos) tb) : PD c X (.BoolOp .And (a :: b :: rest) pos) (dAndV ta tb) := PE_imp (pe_and ha hb) fun σ H Q ⟨ρ, w, Q', hH, a, h, k⟩ =>
  ⟨ρ, w, _, hH, a, h, fun d w1 v q b1 r => by
    cases d with
    | bl z =>
      obtain rfl : v = .bl z := r
      cases z with
      | true => exact ⟨true, rfl, iteT ⟨ρ, w1, Q', rfl, a.next b1, q, k.back b1⟩⟩
      | false => exact ⟨false, rfl, iteF (k _ w1 _ q b1 rfl)⟩
    | _ => exact q.elim⟩
theorem pd_or (ha : PD c X a ta) (hb : PD c X (.BoolOp .Or (b :: rest) pos) tb) : PD c X (.BoolOp .Or (a :: b :: rest) pos) (dOrV ta tb) := PE_imp (pe_or ha hb) fun σ H Q ⟨ρ, w, Q', hH, a, h, k⟩ =>
  ⟨ρ, w, _, hH, a, h, fun d w1 v q b1 r => by
    cases d with
    | bl z =>
      obtain rfl : v = .bl z := r
      cases z with
      | false => exact ⟨false, rfl, iteF ⟨ρ, w1, Q', rfl, a.next b1, q, k.back b1⟩⟩
      | true => exact ⟨true, rfl, iteT (k _ w1 _ q b1 rfl)⟩
    | _ => exact q.elim⟩
theorem pd_not (ha : PD c X a ta) : PD c X (.UnaryOp .Not a pos) (dNotV ta) := PE_imp (pe_not ha) fun σ H Q ⟨ρ, w, Q', hH, a, h, k⟩ =>
  ⟨ρ, w, _, hH, a, h, fun d w1 v q b1 r => by
    cases d with
    | bl z => obtain rfl : v = .bl z := r; exact ⟨z, rfl, k _ w1 _ q b1 rfl⟩
    | _ => exact q.elim⟩
@[simp] def dIf (t : DT) (ta tb : DE) : DE := fun ρ M Q => t ρ M fun k M1 => if k = true then ta ρ M1 Q else tb ρ M1 Q
theorem pd_if {t : Expr} (ht : PDT c X t tA) (ha : PD c X a ta) (hb : PD c X b tb) : PD c X (.IfExp t a b pos) (dIf tA ta tb) := PE_imp (pe_ifExp ht ha hb) fun σ H Q ⟨ρ, w, Q', hH, a, h, k⟩ =>
  ⟨ρ, w, _, hH, a, h, fun z w1 q b1 => by
    cases z with
    | true => exact iteT ⟨ρ, w1, Q', rfl, a.next b1, q, k.back b1⟩
    | false => exact iteF ⟨ρ, w1, Q', rfl, a.next b1, q, k.back b1⟩⟩

/-! ### arguments, displays -/
@[simp] def dNil : DA := fun _ M Q => Q [] M
@[simp] def dCons (t : DE) (u : DA) : DA := fun ρ M Q => t ρ M fun d M1 => u ρ M1 fun ds M2 => Q (d :: ds) M2
variable {es : List Expr} {tl : DA}
theorem pda_nil : PDA c X [] dNil := PA_imp pa_nil fun σ H Q ⟨ρ, w, Q', hH, a, h, k⟩ => hH ▸ k [] w [] h (Bh.refl a.ok) rfl
theorem pda_cons (ha : PD c X e te) (hr : PDA c X es tl) (hs : starEach (e :: es) X.env = (false, eval e X.env) :: starEach es X.env := by rfl) : PDA c X (e :: es) (dCons te tl) := PA_imp (pa_cons ha hr hs) fun σ H Q ⟨ρ, w, Q', hH, a, h, k⟩ =>
  ⟨ρ, w, _, hH, a, h, fun d w1 v q b1 r => ⟨ρ, w1, _, rfl, a.next b1, q, fun ds w2 vs q2 b2 r2 => k (d :: ds) w2 (v :: vs) q2 (b1.trans b2) ⟨v, vs, rfl, r.mono b2.kp, r2⟩⟩⟩
@[simp] def dTup (t : DA) : DE := fun ρ M Q => t ρ M fun ds M1 => ds.length ≤ 100000 ∧ Q (.tup ds) M1
@[simp] def dLst (t : DA) : DE := fun ρ M Q => t ρ M fun ds M1 => ds.length ≤ 100000 ∧ Q (.lst 0 ds) M1
theorem sz {n : Nat} (h : n ≤ 100000) : n ≤ sizeLine := Nat.le_trans h (by decide)
theorem szlt {n : Nat} (h : n < 100000) : n < sizeLine := Nat.lt_of_lt_of_le h (by decide)
/-- data that was just laid -/
theorem rp_lst {K : PySem.W.Frag} {w : Wd} {p : Addr} {ds : List D} {xs : List V} (o : Ok K w) (h : w.H p = none) (r : RpL K w ds xs) : Rp K (w.at (upd w.H p (.lst xs))) (.lst 0 ds) (.ref p) := ⟨p, xs, rfl, LsAt.free (o.fresh h).at upd_same, r.mono (Kp.new h)⟩
theorem rp_tup {K : PySem.W.Frag} {w : Wd} {p : Addr} {ds : List D} {xs : List V} (o : Ok K w) (h : w.H p = none) (r : RpL K w ds xs) : Rp K (w.at (upd w.H p (.tup xs))) (.tup ds) (.ref p) := ⟨p, xs, rfl, .inl ⟨(o.fresh h).at, upd_same⟩, r.mono (Kp.new h)⟩
theorem pd_tup {x1} (h : PDA c X es tl) : PD c X (.Tuple es x1 pos) (dTup tl) := PE_imp (pe_tup h) fun σ H Q ⟨ρ, w, Q', hH, a, h, k⟩ =>
  ⟨ρ, w, _, hH, a, h, fun ds w1 vs q b1 r => ⟨sz (by rw [r.length]; exact q.1), fun p hp => (k.back b1).new b1.ok hp q.2 (rp_tup b1.ok hp r)⟩⟩
theorem pd_lst (h : PDA c X es tl) : PD c X (.List es pos) (dLst tl) := PE_imp (pe_lst h) fun σ H Q ⟨ρ, w, Q', hH, a, h, k⟩ =>
  ⟨ρ, w, _, hH, a, h, fun ds w1 vs q b1 r => ⟨sz (by rw [r.length]; exact q.1), fun p hp => (k.back b1).new b1.ok hp q.2 (rp_lst b1.ok hp r)⟩⟩

/-! ### calls of built-ins by values -/
abbrev DC := List D → Mu → DK → Prop
@[simp] def dCB (g : DC) (t : DA) : DE := fun ρ M Q => t ρ M fun ds M1 => g ds M1 Q
def liftC (K : PySem.W.Frag) (g : DC) : List V → Hp → VK → Prop := fun vs H Q => ∃ w ds Q', w.H = H ∧ Ok K w ∧ RpL K w ds vs ∧ g ds w.M Q' ∧ Wv K w Q' Q
abbrev CallD (X : Cx) (f : Value) (g : DC) : Prop := CallR X f (liftC X.K g)
variable {id T : String} {x : Str} {p : Pos} {gc : DC}
theorem cb_imp {ρ : DEnv} {w : Wd} {Q' : DK} {K : PySem.W.Frag} {σ : St} {H : Hp} {Q : VK} (hH : w.H = H) (a : At K c w ρ σ) (h : dCB gc tl ρ w.M Q') (k : Wv K w Q' Q) : tCB (liftC K gc) (liftA K c tl) σ H Q :=
  ⟨ρ, w, _, hH, a, h, fun ds w1 vs q b1 r => ⟨w1, ds, Q', rfl, b1.ok, r, q, k.back b1⟩⟩
theorem pd_callB (hc : CallD X (.builtin id) gc) (hg : Gl X x) (hm : X.mg x = none) (hv : bootBuiltins x = some (.builtin id)) (ha : PDA c X (e :: es) tl) (hn : x ≠ "__name__" := by decide) (hdb : (x == ("__debug__" : Str)) = false := by decide)
    (he : starEach (e :: es) X.env = (false, eval e X.env) :: starEach es X.env := by rfl) (hpl : (backTo pos (starEach es X.env)).any (·.1) = false := by rfl) : PD c X (.Call (.Name x p) (e :: es) [] pos) (dCB gc tl) :=
  PE_imp (pe_callB hc hg hm hv ha hn hdb he hpl) fun _ _ _ ⟨_, _, _, hH, a, h, k⟩ => cb_imp hH a h k
theorem pd_callTy (hc : CallD X (.type T) gc) (hg : Gl X x) (hm : X.mg x = none) (hv : bootBuiltins x = some (.type T)) (ha : PDA c X (e :: es) tl) (hn : x ≠ "__name__" := by decide) (hdb : (x == ("__debug__" : Str)) = false := by decide)
    (he : starEach (e :: es) X.env = (false, eval e X.env) :: starEach es X.env := by rfl) (hpl : (backTo pos (starEach es X.env)).any (·.1) = false := by rfl) : PD c X (.Call (.Name x p) (e :: es) [] pos) (dCB gc tl) :=
  PE_imp (pe_callTy hc hg hm hv ha hn hdb he hpl) fun _ _ _ ⟨_, _, _, hH, a, h, k⟩ => cb_imp hH a h k
end
end DL
/-! The data layer, part c: operators, subscripts, built-in calls. -/
namespace DL
open PySem L2

/-! ### plain data -/
mutual
def py : D → PyData
  | .non => .none
  | .bl b => .bool b
  | .int i => .int i
  | .str x => .str x
  | .lst _ xs => .list (pyL xs)
  | .tup xs => .tuple (pyL xs)
  | .dct _ => .none
  | .obj _ _ => .none
  | .ref _ => .none
  | .ty _ => .none
  | .scr _ => .none
  | .exc _ _ => .none
  | .cls _ => .none
def pyL : List D → List PyData
  | [] => []
  | x :: xs => py x :: pyL xs
end
theorem pyL_map : ∀ xs : List D, pyL xs = xs.map py
  | [] => rfl
  | x :: xs => by rw [pyL, pyL_map xs, List.map_cons]
theorem py_lst (r : Nat) (xs : List D) : py (.lst r xs) = .list (xs.map py) := by rw [py, pyL_map]
theorem py_tup (xs : List D) : py (.tup xs) = .tuple (xs.map py) := by rw [py, pyL_map]
def pyN : Nat → D → Bool
  | _, .non => true
  | _, .bl _ => true
  | _, .int _ => true
  | _, .str x => PyData.strOk x
  | n + 1, .lst _ xs => xs.all (pyN n)
  | n + 1, .tup xs => xs.all (pyN n)
  | _, _ => false
def flatD : D → Bool
  | .non => true
  | .bl _ => true
  | .int _ => true
  | .str _ => true
  | _ => false
def strPair : D → D → Bool
  | .str _, .str _ => true
  | .str _, .non => true
  | .str _, .int _ => true
  | .str _, .bl _ => true
  | .non, .str _ => true
  | .int _, .str _ => true
  | .bl _, .str _ => true
  | _, _ => false
def eqOk (x y : D) : Bool := strPair x y || (pyN 30 x && pyN 30 y)
def eqB (x y : D) : Bool := PyData.eqv (py x) (py y)
section
variable {K : PySem.W.Frag} {w : Wd}
theorem dp_of : ∀ (n : Nat) (d : D) (v : V), pyN n d = true → Rp K w d v → Dp K w.H v (py d) ∧ PyData.canLay0 (py d) = true ∧ PyData.depth (py d) ≤ n := by
  have key : ∀ (n : Nat), (∀ (d : D) (v : V), pyN n d = true → Rp K w d v → Dp K w.H v (py d) ∧ PyData.canLay0 (py d) = true ∧ PyData.depth (py d) ≤ n) →
      ∀ (ds : List D) (vs : List V), ds.all (pyN n) = true → RpL K w ds vs → DpAll K w.H vs (ds.map py) ∧ PyData.canLayAll0 (ds.map py) = true ∧ PyData.depthAll (ds.map py) ≤ n := by
    intro n ih ds
    induction ds with
    | nil => intro vs _ r; obtain rfl : vs = [] := r; exact ⟨.nil, rfl, Nat.zero_le _⟩
    | cons d ds ih2 =>
      intro vs h r
      obtain ⟨x, q, rfl, r1, r2⟩ := r
      rw [List.all_cons, Bool.and_eq_true] at h
      obtain ⟨a1, a2, a3⟩ := ih d x h.1 r1
      obtain ⟨b1, b2, b3⟩ := ih2 q h.2 r2
      refine ⟨.cons a1 b1, ?_, ?_⟩
      · rw [List.map_cons, PyData.canLayAll0, a2, b2]; rfl
      · rw [List.map_cons, PyData.depthAll]; omega
  intro n
  induction n with
  | zero =>
    intro d v h r
    cases d with
    | non => obtain rfl : v = .non := r; exact ⟨.non, rfl, Nat.le_refl _⟩
    | bl b => obtain rfl : v = .bl b := r; exact ⟨.bl b, rfl, Nat.le_refl _⟩
    | int i => obtain rfl : v = .int i := r; exact ⟨.int i, rfl, Nat.le_refl _⟩
    | str x => obtain rfl : v = .str x := r; exact ⟨.str x, h, Nat.le_refl _⟩
    | _ => exact absurd h (by simp [pyN])
  | succ n ih =>
    intro d v h r
    cases d with
    | non => obtain rfl : v = .non := r; exact ⟨.non, rfl, Nat.zero_le _⟩
    | bl b => obtain rfl : v = .bl b := r; exact ⟨.bl b, rfl, Nat.zero_le _⟩
    | int i => obtain rfl : v = .int i := r; exact ⟨.int i, rfl, Nat.zero_le _⟩
    | str x => obtain rfl : v = .str x := r; exact ⟨.str x, h, Nat.zero_le _⟩
    | lst t ds =>
      obtain ⟨a, xs, rfl, hl, hr⟩ := r
      obtain ⟨b1, b2, b3⟩ := key n ih ds xs h hr
      rw [py_lst]
      exact ⟨.lst hl.sq b1, b2, Nat.succ_le_succ b3⟩
    | tup ds =>
      obtain ⟨a, xs, rfl, hl, hr⟩ := r
      obtain ⟨b1, b2, b3⟩ := key n ih ds xs h hr
      rw [py_tup]
      exact ⟨.tup hl.sq b1, b2, Nat.succ_le_succ b3⟩
    | _ => exact absurd h (by simp [pyN])
theorem shaped_of {d : D} {v : V} (h : pyN 30 d = true) (r : Rp K w d v) : Dp K w.H v (py d) ∧ SeqAt.shaped (py d) = true := by
  obtain ⟨a, b, c⟩ := dp_of 30 d v h r
  refine ⟨a, ?_⟩
  unfold SeqAt.shaped
  rw [b, decide_eq_true (show (py d).depth ≤ 64 by omega)]
  rfl
end

/-! ### operators -/
@[simp] def addD : D2 := fun x y M Q => match x, y with
  | .int i, .int j => Q (.int (i + j)) M
  | .str a, .str b => a.length + b.length ≤ 100000 ∧ Q (.str (a ++ b)) M
  | .lst _ a, .lst _ b => a.length + b.length ≤ 100000 ∧ Q (.lst 0 (a ++ b)) M
  | .tup a, .tup b => a.length + b.length ≤ 100000 ∧ Q (.tup (a ++ b)) M
  | _, _ => False
@[simp] def subD : D2 := fun x y M Q => match x, y with
  | .int i, .int j => Q (.int (i - j)) M
  | _, _ => False
@[simp] def mulD : D2 := fun x y M Q => match x, y with
  | .int i, .int j => CMul i j ∧ Q (.int (i * j)) M
  | .lst _ a, .int k => 0 ≤ k ∧ k ≤ 100000 ∧ a.length * k.toNat ≤ 100000 ∧ Q (.lst 0 (List.replicate k.toNat a).flatten) M
  | _, _ => False
@[simp] def fdivD : D2 := fun x y M Q => match x, y with
  | .int i, .int j => (0 < j ∧ j < 1073741824) ∧ Q (.int (i / j)) M
  | _, _ => False
@[simp] def modD : D2 := fun x y M Q => match x, y with
  | .int i, .int j => 0 < j ∧ Q (.int (i % j)) M
  | _, _ => False
@[simp] def powD : D2 := fun x y M Q => match x, y with
  | .int i, .int j => CPow i j ∧ Q (.int (i ^ j.toNat)) M
  | _, _ => False
@[simp] def eqD : D2 := fun x y M Q => eqOk x y = true ∧ Q (.bl (eqB x y)) M
@[simp] def neD : D2 := fun x y M Q => eqOk x y = true ∧ Q (.bl (!eqB x y)) M
@[simp] def ltD : D2 := fun x y M Q => match x, y with
  | .int i, .int j => Q (.bl (decide (i < j))) M
  | _, _ => False
@[simp] def leD : D2 := fun x y M Q => match x, y with
  | .int i, .int j => Q (.bl (decide (i ≤ j))) M
  | _, _ => False
@[simp] def gtD : D2 := fun x y M Q => match x, y with
  | .int i, .int j => Q (.bl (decide (j < i))) M
  | _, _ => False
@[simp] def geD : D2 := fun x y M Q => match x, y with
  | .int i, .int j => Q (.bl (decide (j ≤ i))) M
  | _, _ => False
def isNon : D → Bool
  | .non => true
  | _ => false
@[simp] def isND : D2 := fun x y M Q => match y with
  | .non => Q (.bl (isNon x)) M
  | _ => False
@[simp] def notND : D2 := fun x y M Q => match y with
  | .non => Q (.bl (!isNon x)) M
  | _ => False
def inB (x : D) (ys : List D) : Bool := ys.any fun y => eqB y x
def subText (a b : Str) : Bool := !(Builtin.Str.occurrences b a 0 b.length 1).isEmpty
@[simp] def inD : D2 := fun x y M Q => match x, y with
  | .str a, .str b => Q (.bl (subText a b)) M
  | x, .lst _ ys => (flatD x = true ∧ ys.all flatD = true) ∧ Q (.bl (inB x ys)) M
  | x, .tup ys => (flatD x = true ∧ ys.all flatD = true) ∧ Q (.bl (inB x ys)) M
  | _, _ => False
@[simp] def ninD : D2 := fun x y M Q => match x, y with
  | .str a, .str b => Q (.bl (!subText a b)) M
  | x, .lst _ ys => (flatD x = true ∧ ys.all flatD = true) ∧ Q (.bl (!inB x ys)) M
  | x, .tup ys => (flatD x = true ∧ ys.all flatD = true) ∧ Q (.bl (!inB x ys)) M
  | _, _ => False
section
variable {X : Cx}
theorem opD_add : OpD X (binaryOp .Add) addD := by
  intro pins s σ H x y v u Q I rx ry ⟨w, dx, dy, Q', hH, ok, r1, r2, h, k⟩
  subst hH
  cases dx <;> cases dy <;> first | exact False.elim h | skip
  case int.int i j =>
    obtain rfl : x = .int i := r1; obtain rfl : y = .int j := r2
    exact op_add pins s σ _ _ _ v u Q I rx ry ⟨i, j, rfl, rfl, k.here ok h rfl⟩
  case str.str a b =>
    obtain rfl : x = .str a := r1; obtain rfl : y = .str b := r2
    exact op_add_str pins s σ _ _ _ v u Q I rx ry ⟨a, b, rfl, rfl, sz h.1, k.here ok h.2 rfl⟩
  case lst.lst t1 a t2 b =>
    obtain ⟨p, xs, rfl, l1, s1⟩ := r1; obtain ⟨p2, ys, rfl, l2, s2⟩ := r2
    refine op_cat pins s σ _ _ _ v u Q I rx ry ⟨p, p2, xs, ys, rfl, rfl, l1.1, l2.1, by rw [s1.length, s2.length]; exact sz h.1, fun q hq => ?_⟩
    exact k.new ok hq h.2 (rp_lst ok hq (s1.append s2))
  case tup.tup a b =>
    obtain ⟨p, xs, rfl, l1, s1⟩ := r1; obtain ⟨p2, ys, rfl, l2, s2⟩ := r2
    refine op_catA pins s σ _ _ _ v u Q I rx ry ⟨p, p2, xs, ys, rfl, rfl, l1.sq, l2.sq, by rw [s1.length, s2.length]; exact sz h.1, fun e => ?_, fun _ e => ?_, fun _ _ q hq => ?_⟩
    · subst e
      cases a with
      | nil => exact k.here ok h.2 ⟨p2, ys, rfl, l2, s2⟩
      | cons d r => obtain ⟨_, _, z, _⟩ := s1; cases z
    · subst e
      cases b with
      | nil => exact k.here ok h.2 (by rw [List.append_nil]; exact ⟨p, xs, rfl, l1, s1⟩)
      | cons d r => obtain ⟨_, _, z, _⟩ := s2; cases z
    · exact k.new ok hq h.2 (rp_tup ok hq (s1.append s2))
theorem opD_sub : OpD X (binaryOp .Sub) subD := by
  intro pins s σ H x y v u Q I rx ry ⟨w, dx, dy, Q', hH, ok, r1, r2, h, k⟩
  subst hH
  cases dx <;> cases dy <;> first | exact False.elim h | skip
  case int.int i j =>
    obtain rfl : x = .int i := r1; obtain rfl : y = .int j := r2
    exact op_sub pins s σ _ _ _ v u Q I rx ry ⟨i, j, rfl, rfl, k.here ok h rfl⟩
theorem rp_flat {K : PySem.W.Frag} {w : Wd} {ds : List D} {xs : List V} (r : RpL K w ds xs) : ∀ n : Nat, RpL K w (List.replicate n ds).flatten (List.replicate n xs).flatten
  | 0 => rfl
  | n + 1 => by
    rw [List.replicate_succ, List.replicate_succ, List.flatten_cons, List.flatten_cons]
    exact r.append (rp_flat r n)
theorem opD_mul : OpD X (binaryOp .Mult) mulD := by
  intro pins s σ H x y v u Q I rx ry ⟨w, dx, dy, Q', hH, ok, r1, r2, h, k⟩
  subst hH
  cases dx <;> cases dy <;> first | exact False.elim h | skip
  case int.int i j =>
    obtain rfl : x = .int i := r1; obtain rfl : y = .int j := r2
    exact op_mul pins s σ _ _ _ v u Q I rx ry ⟨i, j, rfl, rfl, h.1, k.here ok h.2 rfl⟩
  case lst.int t1 a n =>
    obtain ⟨p, xs, rfl, l1, s1⟩ := r1; obtain rfl : y = .int n := r2
    refine op_rep pins s σ _ _ _ v u Q I rx ry ⟨p, n, xs, rfl, rfl, l1.1, (by have h1 := h.1; have h2 := h.2.1; omega), (by have h1 := h.1; have h2 := h.2.1; omega), by rw [s1.length]; exact sz h.2.2.1, fun q hq => ?_⟩
    exact k.new ok hq h.2.2.2 (rp_lst ok hq (rp_flat s1 n.toNat))
theorem opD_fdiv : OpD X (binaryOp .FloorDiv) fdivD := by
  intro pins s σ H x y v u Q I rx ry ⟨w, dx, dy, Q', hH, ok, r1, r2, h, k⟩
  subst hH
  cases dx <;> cases dy <;> first | exact False.elim h | skip
  case int.int i j =>
    obtain rfl : x = .int i := r1; obtain rfl : y = .int j := r2
    exact op_fdiv pins s σ _ _ _ v u Q I rx ry ⟨i, j, rfl, rfl, h.1, k.here ok h.2 rfl⟩
theorem opD_mod : OpD X (binaryOp .Mod) modD := by
  intro pins s σ H x y v u Q I rx ry ⟨w, dx, dy, Q', hH, ok, r1, r2, h, k⟩
  subst hH
  cases dx <;> cases dy <;> first | exact False.elim h | skip
  case int.int i j =>
    obtain rfl : x = .int i := r1; obtain rfl : y = .int j := r2
    exact op_mod pins s σ _ _ _ v u Q I rx ry ⟨i, j, rfl, rfl, h.1, k.here ok h.2 rfl⟩
theorem opD_pow : OpD X (binaryOp .Pow) powD := by
  intro pins s σ H x y v u Q I rx ry ⟨w, dx, dy, Q', hH, ok, r1, r2, h, k⟩
  subst hH
  cases dx <;> cases dy <;> first | exact False.elim h | skip
  case int.int i j =>
    obtain rfl : x = .int i := r1; obtain rfl : y = .int j := r2
    exact op_pow pins s σ _ _ _ v u Q I rx ry ⟨i, j, rfl, rfl, h.1, k.here ok h.2 rfl⟩
theorem opD_lt : OpD X (compareOp .Lt) ltD := by
  intro pins s σ H x y v u Q I rx ry ⟨w, dx, dy, Q', hH, ok, r1, r2, h, k⟩
  subst hH
  cases dx <;> cases dy <;> first | exact False.elim h | skip
  case int.int i j =>
    obtain rfl : x = .int i := r1; obtain rfl : y = .int j := r2
    exact op_lt pins s σ _ _ _ v u Q I rx ry ⟨i, j, rfl, rfl, k.here ok h rfl⟩
theorem opD_le : OpD X (compareOp .LtE) leD := by
  intro pins s σ H x y v u Q I rx ry ⟨w, dx, dy, Q', hH, ok, r1, r2, h, k⟩
  subst hH
  cases dx <;> cases dy <;> first | exact False.elim h | skip
  case int.int i j =>
    obtain rfl : x = .int i := r1; obtain rfl : y = .int j := r2
    exact op_le pins s σ _ _ _ v u Q I rx ry ⟨i, j, rfl, rfl, k.here ok h rfl⟩
theorem opD_gt : OpD X (compareOp .Gt) gtD := by
  intro pins s σ H x y v u Q I rx ry ⟨w, dx, dy, Q', hH, ok, r1, r2, h, k⟩
  subst hH
  cases dx <;> cases dy <;> first | exact False.elim h | skip
  case int.int i j =>
    obtain rfl : x = .int i := r1; obtain rfl : y = .int j := r2
    exact op_gt pins s σ _ _ _ v u Q I rx ry ⟨i, j, rfl, rfl, k.here ok h rfl⟩
theorem opD_ge : OpD X (compareOp .GtE) geD := by
  intro pins s σ H x y v u Q I rx ry ⟨w, dx, dy, Q', hH, ok, r1, r2, h, k⟩
  subst hH
  cases dx <;> cases dy <;> first | exact False.elim h | skip
  case int.int i j =>
    obtain rfl : x = .int i := r1; obtain rfl : y = .int j := r2
    exact op_ge pins s σ _ _ _ v u Q I rx ry ⟨i, j, rfl, rfl, k.here ok h rfl⟩
theorem rp_non {K : PySem.W.Frag} {w : Wd} {d : D} {v : V} (r : Rp K w d v) : decide (v = .non) = isNon d := by
  cases d with
  | non => obtain rfl : v = .non := r; rfl
  | bl b => obtain rfl : v = .bl b := r; rfl
  | int b => obtain rfl : v = .int b := r; rfl
  | str b => obtain rfl : v = .str b := r; rfl
  | ref b => obtain rfl : v = .ref b := r; rfl
  | ty b => obtain rfl : v = .ty b := r; rfl
  | lst t b => obtain ⟨_, _, rfl, _⟩ := r; rfl
  | tup b => obtain ⟨_, _, rfl, _⟩ := r; rfl
  | dct b => obtain ⟨_, rfl, _⟩ := r; rfl
  | obj C b => obtain ⟨_, _, _, rfl, _⟩ := r; rfl
  | scr b => obtain ⟨_, rfl, _⟩ := r; rfl
  | exc C b => obtain ⟨_, _, _, rfl, _⟩ := r; rfl
  | cls b => obtain rfl : v = .ref _ := r; rfl
theorem opD_is : OpD X (compareOp .Is) isND := by
  intro pins s σ H x y v u Q I rx ry ⟨w, dx, dy, Q', hH, ok, r1, r2, h, k⟩
  subst hH
  cases dy <;> first | exact False.elim h | skip
  case non =>
    obtain rfl : y = .non := r2
    exact op_isN pins s σ _ _ _ v u Q I rx ry ⟨rfl, by rw [rp_non r1]; exact k.here ok h rfl⟩
theorem opD_isnot : OpD X (compareOp .IsNot) notND := by
  intro pins s σ H x y v u Q I rx ry ⟨w, dx, dy, Q', hH, ok, r1, r2, h, k⟩
  subst hH
  cases dy <;> first | exact False.elim h | skip
  case non =>
    obtain rfl : y = .non := r2
    exact op_notN pins s σ _ _ _ v u Q I rx ry ⟨rfl, by rw [rp_non r1]; exact k.here ok h rfl⟩

/-! ### ==, in -/
theorem eq_flat {X : Cx} (hu : X.A.units + 64 < cLine) : OpR X (compareOp .Eq) (liftO X.K eqD) := by
  intro pins s σ H x y v u Q I rx ry ⟨w, dx, dy, Q', hH, ok, r1, r2, h, k⟩
  subst hH
  have gen : pyN 30 dx = true → pyN 30 dy = true → wpAny (model X.prog X.w) X.A (compareOp .Eq v u) (EP X pins σ Q) X.xe s := fun h1 h2 => by
    obtain ⟨a1, a2⟩ := shaped_of h1 r1
    obtain ⟨b1, b2⟩ := shaped_of h2 r2
    exact op_eqD hu pins s σ _ _ _ v u Q I rx ry ⟨_, _, a1, b1, a2, b2, k.here ok h.2 rfl⟩
  have fl : scal x y = true → decide (x = y) = eqB dx dy → wpAny (model X.prog X.w) X.A (compareOp .Eq v u) (EP X pins σ Q) X.xe s := fun h1 h2 =>
    op_eq pins s σ _ _ _ v u Q I rx ry ⟨h1, by rw [h2]; exact k.here ok h.2 rfl⟩
  have h1 := h.1
  rw [eqOk, Bool.or_eq_true, Bool.and_eq_true] at h1
  rcases h1 with h1 | h1
  rotate_left
  · exact gen h1.1 h1.2
  cases dx <;> cases dy <;> first
    | exact (Bool.noConfusion (show false = true from h1))
    | (obtain rfl := (show x = _ from r1); obtain rfl := (show y = _ from r2); exact fl rfl rfl)
    | (obtain rfl := (show x = _ from r1); obtain rfl := (show y = _ from r2); exact fl rfl (by
        rename_i a b
        show decide (V.str a = V.str b) = (a == b)
        by_cases e : a = b
        · subst e; simp
        · rw [decide_eq_false (by intro z; exact e (V.str.inj z))]; simp [e]))
theorem ne_flat {X : Cx} (hu : X.A.units + 64 < cLine) : OpR X (compareOp .NotEq) (liftO X.K neD) := by
  intro pins s σ H x y v u Q I rx ry ⟨w, dx, dy, Q', hH, ok, r1, r2, h, k⟩
  subst hH
  have gen : pyN 30 dx = true → pyN 30 dy = true → wpAny (model X.prog X.w) X.A (compareOp .NotEq v u) (EP X pins σ Q) X.xe s := fun h1 h2 => by
    obtain ⟨a1, a2⟩ := shaped_of h1 r1
    obtain ⟨b1, b2⟩ := shaped_of h2 r2
    exact op_neD hu pins s σ _ _ _ v u Q I rx ry ⟨_, _, a1, b1, a2, b2, k.here ok h.2 rfl⟩
  have fl : scal x y = true → decide (x = y) = eqB dx dy → wpAny (model X.prog X.w) X.A (compareOp .NotEq v u) (EP X pins σ Q) X.xe s := fun h1 h2 =>
    op_ne pins s σ _ _ _ v u Q I rx ry ⟨h1, by rw [h2]; exact k.here ok h.2 rfl⟩
  have h1 := h.1
  rw [eqOk, Bool.or_eq_true, Bool.and_eq_true] at h1
  rcases h1 with h1 | h1
  rotate_left
  · exact gen h1.1 h1.2
  cases dx <;> cases dy <;> first
    | exact (Bool.noConfusion (show false = true from h1))
    | (obtain rfl := (show x = _ from r1); obtain rfl := (show y = _ from r2); exact fl rfl rfl)
    | (obtain rfl := (show x = _ from r1); obtain rfl := (show y = _ from r2); exact fl rfl (by
        rename_i a b
        show decide (V.str a = V.str b) = (a == b)
        by_cases e : a = b
        · subst e; simp
        · rw [decide_eq_false (by intro z; exact e (V.str.inj z))]; simp [e]))
theorem flat_v {K : PySem.W.Frag} {w : Wd} {d : D} {v : V} (h : flatD d = true) (r : Rp K w d v) : flatV v = true := by
  cases d <;> first | (obtain rfl := (show v = _ from r); rfl) | exact (Bool.noConfusion (show false = true from h))
theorem flat_vs {K : PySem.W.Frag} {w : Wd} : ∀ {ds : List D} {vs : List V}, ds.all flatD = true → RpL K w ds vs → vs.all flatV = true
  | [], vs, h, r => by obtain rfl : vs = [] := r; rfl
  | d :: ds, vs, h, r => by
    obtain ⟨x, q, rfl, r1, r2⟩ := r
    rw [List.all_cons, Bool.and_eq_true] at h
    rw [List.all_cons, flat_v h.1 r1, flat_vs h.2 r2]; rfl
theorem eqV_eqB {K : PySem.W.Frag} {w : Wd} {d e : D} {v u : V} (h : flatD d = true) (h' : flatD e = true) (r : Rp K w d v) (r' : Rp K w e u) : eqV v u = eqB d e := by
  cases d <;> cases e <;> first | (obtain rfl := (show v = _ from r); obtain rfl := (show u = _ from r'); rfl) | exact (Bool.noConfusion (show false = true from h)) | exact (Bool.noConfusion (show false = true from h'))
theorem inV_inB {K : PySem.W.Frag} {w : Wd} {d : D} {v : V} (h : flatD d = true) (r : Rp K w d v) : ∀ {ds : List D} {vs : List V}, ds.all flatD = true → RpL K w ds vs → inV v vs = inB d ds
  | [], vs, h, r => by obtain rfl : vs = [] := r; rfl
  | e :: ds, vs, h', r' => by
    obtain ⟨x, q, rfl, r1, r2⟩ := r'
    rw [List.all_cons, Bool.and_eq_true] at h'
    have ih := inV_inB h r h'.2 r2
    unfold inV inB at ih ⊢
    rw [List.any_cons, List.any_cons, eqV_eqB h'.1 h r1 r, ih]
theorem opD_in : OpD X (compareOp .In) inD := by
  intro pins s σ H x y v u Q I rx ry ⟨w, dx, dy, Q', hH, ok, r1, r2, h, k⟩
  subst hH
  have hs : ∀ ys, (∃ p xs, y = .ref p ∧ (SqL X.K w.H p xs ∨ SqT X.K w.H p xs) ∧ RpL X.K w ys xs) → (flatD dx = true ∧ ys.all flatD = true) ∧ Q' (.bl (inB dx ys)) w.M → wpAny (model X.prog X.w) X.A (compareOp .In v u) (EP X pins σ Q) X.xe s := fun ys ⟨p, xs, e, l, s1⟩ h =>
    op_in_seq pins s σ _ _ _ v u Q I rx ry ⟨p, xs, e, l, flat_v h.1.1 r1, flat_vs h.1.2 s1, by
      show Q (.bl (inV x xs)) w.H
      rw [inV_inB h.1.1 r1 h.1.2 s1]; exact k.here ok h.2 rfl⟩
  cases dy with
  | lst t ys => obtain ⟨p, xs, rfl, l, s1⟩ := r2; exact hs ys ⟨p, xs, rfl, .inl l.sq, s1⟩ (by cases dx <;> exact h)
  | tup ys => obtain ⟨p, xs, rfl, l, s1⟩ := r2; exact hs ys ⟨p, xs, rfl, .inr l.sq, s1⟩ (by cases dx <;> exact h)
  | str b =>
    cases dx with
    | str a =>
      obtain rfl : x = .str a := r1; obtain rfl : y = .str b := r2
      exact op_in_str pins s σ _ _ _ v u Q I rx ry ⟨a, b, rfl, rfl, k.here ok h rfl⟩
    | _ => exact False.elim h
  | _ => cases dx <;> exact False.elim h
theorem opD_nin : OpD X (compareOp .NotIn) ninD := by
  intro pins s σ H x y v u Q I rx ry ⟨w, dx, dy, Q', hH, ok, r1, r2, h, k⟩
  subst hH
  have hs : ∀ ys, (∃ p xs, y = .ref p ∧ (SqL X.K w.H p xs ∨ SqT X.K w.H p xs) ∧ RpL X.K w ys xs) → (flatD dx = true ∧ ys.all flatD = true) ∧ Q' (.bl (!inB dx ys)) w.M → wpAny (model X.prog X.w) X.A (compareOp .NotIn v u) (EP X pins σ Q) X.xe s := fun ys ⟨p, xs, e, l, s1⟩ h =>
    op_notIn_seq pins s σ _ _ _ v u Q I rx ry ⟨p, xs, e, l, flat_v h.1.1 r1, flat_vs h.1.2 s1, by
      show Q (.bl (!inV x xs)) w.H
      rw [inV_inB h.1.1 r1 h.1.2 s1]; exact k.here ok h.2 rfl⟩
  cases dy with
  | lst t ys => obtain ⟨p, xs, rfl, l, s1⟩ := r2; exact hs ys ⟨p, xs, rfl, .inl l.sq, s1⟩ (by cases dx <;> exact h)
  | tup ys => obtain ⟨p, xs, rfl, l, s1⟩ := r2; exact hs ys ⟨p, xs, rfl, .inr l.sq, s1⟩ (by cases dx <;> exact h)
  | str b =>
    cases dx with
    | str a =>
      obtain rfl : x = .str a := r1; obtain rfl : y = .str b := r2
      exact op_notin_str pins s σ _ _ _ v u Q I rx ry ⟨a, b, rfl, rfl, k.here ok h rfl⟩
    | _ => exact False.elim h
  | _ => cases dx <;> exact False.elim h

/-! ### chains -/
variable {c : Wd} {a b e : Expr} {ta tb te : DE} {pos : Pos} {g g' : D2}
@[simp] def dChain (g g' : D2) (ta tb tc : DE) : DE := fun ρ M Q => ta ρ M fun x M1 => tb ρ M1 fun y M2 => g x y M2 fun z M3 => match z with | .bl k => if k = true then (tc ρ M3 fun w M4 => g' y w M4 Q) else Q (.bl false) M3 | _ => False
theorem chain_imp {tc : DE} {ρ : DEnv} {w : Wd} {Q' : DK} {K : PySem.W.Frag} {σ : St} {H : Hp} {Q : VK} (hH : w.H = H) (a : At K c w ρ σ) (h : dChain g g' ta tb tc ρ w.M Q') (k : Wv K w Q' Q) : tChain (liftO K g) (liftO K g') (lift K c ta) (lift K c tb) (lift K c tc) σ H Q :=
  ⟨ρ, w, _, hH, a, h, fun d w1 v q b1 r => ⟨ρ, w1, _, rfl, a.next b1, q, fun e w2 v2 q2 b2 r2 => ⟨w2, d, e, _, rfl, b2.ok, r.mono b2.kp, r2, q2, fun z w3 vz q3 b3 r3 => by
    cases z with
    | bl y =>
      obtain rfl : vz = .bl y := r3
      refine ⟨y, rfl, ?_⟩
      cases y with
      | true => exact iteT ⟨ρ, w3, _, rfl, a.next ((b1.trans b2).trans b3), q3, fun d4 w4 v4 q4 b4 r4 => ⟨w4, e, d4, Q', rfl, b4.ok, (r2.mono b3.kp).mono b4.kp, r4, q4, k.back (((b1.trans b2).trans b3).trans b4)⟩⟩
      | false => exact iteF (k _ w3 _ q3 ((b1.trans b2).trans b3) rfl)
    | _ => exact q3.elim⟩⟩⟩
theorem pd_chain {op op' : CmpOp} {c' : Expr} {tc : DE} (ho : OpD X (compareOp op) g) (ho' : OpD X (compareOp op') g') (ha : PD c X a ta) (hb : PD c X b tb) (hc : PD c X c' tc)
    (hm : lastMarks [op, op'] [b, c'] = false := by with_unfolding_all rfl) : PD c X (.Compare a [op, op'] [b, c'] pos) (dChain g g' ta tb tc) := PE_imp (pe_chain ho ho' ha hb hc hm) fun _ _ _ ⟨_, _, _, hH, a, h, k⟩ => chain_imp hH a h k
theorem pdt_chain {op op' : CmpOp} {c' : Expr} {tc : DE} (ho : OpD X (compareOp op) g) (ho' : OpD X (compareOp op') g') (ha : PD c X a ta) (hb : PD c X b tb) (hc : PD c X c' tc)
    (hm : lastMarks [op, op'] [b, c'] = false := by with_unfolding_all rfl) : PDT c X (.Compare a [op, op'] [b, c'] pos) (dB (dChain g g' ta tb tc)) := PT_imp (pt_chain ho ho' ha hb hc hm) fun _ _ _ ⟨_, _, _, hH, a, h, k⟩ => chain_imp hH a h (Wv.isB k)

/-! ### subscripts, slices -/
@[simp] def ixD : D2 := fun x y M Q => match y with
  | .int i => match x with
    | .lst _ ds => (match atI ds i with | some d => Q d M | none => False)
    | .tup ds => (match atI ds i with | some d => Q d M | none => False)
    | .str z => z.length ≤ 100000 ∧ (match atI z.cps.toList i with | some c => Q (.str ⟨#[c]⟩) M | none => False)
    | .ref a => (match M a with | some (.lst ds) => (match atI ds i with | some d => Q d M | none => False) | _ => False)
    | _ => False
  | _ => False
theorem atI_rp {K : PySem.W.Frag} {w : Wd} {ds : List D} {vs : List V} {i : Int} {d : D} (r : RpL K w ds vs) (h : atI ds i = some d) : ∃ v, atI vs i = some v ∧ Rp K w d v := by
  unfold atI at h ⊢
  rw [r.length]
  cases e : ixN ds.length i with
  | none => rw [e] at h; cases h
  | some j =>
    rw [e] at h
    obtain ⟨v, h1, h2⟩ := r.at (i := j) (d := d) h
    exact ⟨v, h1, h2⟩
theorem ixR_D : IxR X (liftO X.K ixD) := by
  intro value slice pins s σ H x y v u Q I rx ry ⟨w, dx, dy, Q', hH, ok, r1, r2, h, k⟩ hs
  subst hH
  cases dy with
  | int i =>
    obtain rfl : y = .int i := r2
    cases dx with
    | lst t ds =>
      obtain ⟨p, xs, rfl, l, s1⟩ := r1
      cases e : atI ds i with
      | none => simp only [ixD, e] at h
      | some d =>
        simp only [ixD, e] at h
        obtain ⟨z, h1, h2⟩ := atI_rp s1 e
        exact ix_list value slice pins s σ _ _ _ v u Q I rx ry ⟨p, xs, i, z, rfl, rfl, l.sq, h1, k.here ok h h2⟩ hs
    | tup ds =>
      obtain ⟨p, xs, rfl, l, s1⟩ := r1
      cases e : atI ds i with
      | none => simp only [ixD, e] at h
      | some d =>
        simp only [ixD, e] at h
        obtain ⟨z, h1, h2⟩ := atI_rp s1 e
        exact ix_tup value slice pins s σ _ _ _ v u Q I rx ry ⟨p, xs, i, z, rfl, rfl, l.sq, h1, k.here ok h h2⟩ hs
    | str z =>
      obtain rfl : x = .str z := r1
      cases e : atI z.cps.toList i with
      | none => simp only [ixD, e] at h; exact h.2.elim
      | some d =>
        simp only [ixD, e] at h
        exact ix_str value slice pins s σ _ _ _ v u Q I rx ry ⟨z, i, d, rfl, rfl, sz h.1, e, k.here ok h.2 rfl⟩ hs
    | ref a =>
      obtain rfl : x = .ref a := r1
      cases em : w.M a with
      | none => simp only [ixD, em] at h
      | some m =>
        cases m with
        | lst ds =>
          simp only [ixD, em] at h
          cases e : atI ds i with
          | none => simp only [e] at h
          | some d =>
            simp only [e] at h
            obtain ⟨xs, hx, s1⟩ := (show ∃ xs, w.H a = some (.lst xs) ∧ RpL X.K w ds xs from ok.mo a _ em)
            obtain ⟨z, h1, h2⟩ := atI_rp s1 e
            exact ix_list value slice pins s σ _ _ _ v u Q I rx ry ⟨a, xs, i, z, rfl, rfl, SqL.of hx, h1, k.here ok h h2⟩ hs
        | _ => simp only [ixD, em] at h
    | _ => exact False.elim h
  | _ => exact False.elim h
theorem pd_ix (ha : PD c X a ta) (hb : PD c X b tb) (hs : PlainIx b := by exact fun _ _ => rfl) : PD c X (.Subscript a b pos) (dOp ixD ta tb) := PE_imp (pe_ix ixR_D ha hb hs) fun _ _ _ ⟨_, _, _, hH, a, h, k⟩ => op_imp hH a h k
def cut {α : Type} (xs : List α) (lo hi : Option Int) : List α := (xs.drop (HT.sIx xs.length 0 lo)).take (HT.sIx xs.length xs.length hi - HT.sIx xs.length 0 lo)
theorem cut_rp {K : PySem.W.Frag} {w : Wd} {ds : List D} {vs : List V} (lo hi : Option Int) (r : RpL K w ds vs) : RpL K w (cut ds lo hi) (cutV vs lo hi) := by
  unfold cut cutV
  rw [r.length]
  exact (r.drop _).take _
theorem cut_len {α : Type} (xs : List α) (lo hi : Option Int) : (cut xs lo hi).length ≤ xs.length := by
  unfold cut
  rw [List.length_take, List.length_drop]; omega
abbrev DO := DEnv → Mu → (Option Int → Mu → Prop) → Prop
def liftOp (K : PySem.W.Frag) (c : Wd) (t : DO) : TO := fun σ H Q => ∃ ρ w Q', w.H = H ∧ At K c w ρ σ ∧ t ρ w.M Q' ∧ ∀ o w', Q' o w'.M → Bh K w w' → Q o w'.H
abbrev PDO (c : Wd) (X : Cx) (e : Option Expr) (t : DO) : Prop := PO X e (liftOp X.K c t)
theorem PO_imp {e : Option Expr} {t t' : TO} (h : PO X e t) (i : ∀ σ H Q, t' σ H Q → t σ H Q) : PO X e t' := ⟨fun pins s σ H Q I q => h.run pins s σ H Q I (i σ H Q q)⟩
@[simp] def dNoPart : DO := fun _ M Q => Q none M
@[simp] def dPart (t : DE) : DO := fun ρ M Q => t ρ M fun d M1 => match d with | .int i => Q (some i) M1 | _ => False
theorem pdo_none : PDO c X none dNoPart := PO_imp po_none fun σ H Q ⟨ρ, w, Q', hH, a, h, k⟩ => hH ▸ k none w h (Bh.refl a.ok)
theorem pdo_some (h : PD c X e te) : PDO c X (some e) (dPart te) := PO_imp (po_some h) fun σ H Q ⟨ρ, w, Q', hH, a, h, k⟩ => ⟨ρ, w, _, hH, a, h, fun d w1 v q b1 r => by
  cases d with
  | int i => obtain rfl : v = .int i := r; exact ⟨i, rfl, k _ w1 q b1⟩
  | _ => exact q.elim⟩
@[simp] def slD : D → Option Int → Option Int → Mu → DK → Prop := fun x lo hi M Q => match x with
  | .lst _ ds => Q (.lst 0 (cut ds lo hi)) M
  | .tup ds => Q (.tup (cut ds lo hi)) M
  | .str z => z.length ≤ 100000 ∧ Q (.str (cutS z lo hi)) M
  | .scr ns => Q (.lst 0 (cut (ns.map D.int) lo hi)) M
  | .ref a => (match M a with | some (.lst ds) => Q (.lst 0 (cut ds lo hi)) M | _ => False)
  | _ => False
theorem ints_rp {K : PySem.W.Frag} {w : Wd} : ∀ ns : List Int, RpL K w (ns.map D.int) (ns.map V.int)
  | [] => rfl
  | n :: ns => ⟨.int n, ns.map V.int, rfl, rfl, ints_rp ns⟩
def liftSl (K : PySem.W.Frag) : V → Option Int → Option Int → Hp → VK → Prop := fun x lo hi H Q => ∃ w dx Q', w.H = H ∧ Ok K w ∧ Rp K w dx x ∧ slD dx lo hi w.M Q' ∧ Wv K w Q' Q
theorem slR_D : SlR X (liftSl X.K) := by
  intro pins s σ H x v vl vu lo hi sl Q I rx hs pl pu ⟨w, dx, Q', hH, ok, r1, h, k⟩
  subst hH
  cases dx with
  | lst t ds =>
    obtain ⟨p, xs, rfl, l, s1⟩ := r1
    exact sl_list pins s σ _ _ v vl vu lo hi sl Q I rx hs pl pu ⟨p, xs, rfl, l.sq, fun q hq => k.new ok hq h (rp_lst ok hq (cut_rp lo hi s1))⟩
  | tup ds =>
    obtain ⟨p, xs, rfl, l, s1⟩ := r1
    refine sl_tupA pins s σ _ _ v vl vu lo hi sl Q I rx hs pl pu ⟨p, xs, rfl, l.sq, fun e => ?_, fun _ q hq => k.new ok hq h (rp_tup ok hq (cut_rp lo hi s1))⟩
    have hl := s1.length
    refine k.here ok h (show Rp X.K w (.tup (cut ds lo hi)) (.ref p) from ?_)
    have : cut ds lo hi = ds := by
      unfold cut
      rw [← hl, e.1, e.2, List.drop_zero, hl, Nat.sub_zero, List.take_length]
    rw [this]
    exact ⟨p, xs, rfl, l, s1⟩
  | str z =>
    obtain rfl : x = .str z := r1
    exact sl_str pins s σ _ _ v vl vu lo hi sl Q I rx hs pl pu ⟨z, rfl, sz h.1, k.here ok h.2 rfl⟩
  | scr ns =>
    obtain ⟨ad, rfl, h1⟩ := r1
    have hq : SqL X.K w.H ad (ns.map V.int) := h1.elim (fun z => .inl z.2) fun z => z w.H
    exact sl_list pins s σ _ _ v vl vu lo hi sl Q I rx hs pl pu ⟨ad, ns.map V.int, rfl, hq, fun q hq => k.new ok hq h (rp_lst ok hq (cut_rp lo hi (ints_rp ns)))⟩
  | ref a =>
    obtain rfl : x = .ref a := r1
    cases em : w.M a with
    | none => simp only [slD, em] at h
    | some m =>
      cases m with
      | lst ds =>
        simp only [slD, em] at h
        obtain ⟨xs, hx, s1⟩ := (show ∃ xs, w.H a = some (.lst xs) ∧ RpL X.K w ds xs from ok.mo a _ em)
        exact sl_list pins s σ _ _ v vl vu lo hi sl Q I rx hs pl pu ⟨a, xs, rfl, SqL.of hx, fun q hq => k.new ok hq h (rp_lst ok hq (cut_rp lo hi s1))⟩
      | _ => simp only [slD, em] at h
  | _ => exact False.elim h
@[simp] def dSl (te : DE) (tl th : DO) : DE := fun ρ M Q => te ρ M fun x M1 => tl ρ M1 fun l M2 => th ρ M2 fun u M3 => slD x l u M3 Q
theorem pd_slice {lo hi : Option Expr} {tl th : DO} {p2 : Pos} (he : PD c X e te) (hl : PDO c X lo tl) (hu : PDO c X hi th) : PD c X (.Subscript e (.Slice lo hi none p2) pos) (dSl te tl th) :=
  PE_imp (pe_slice slR_D he hl hu) fun σ H Q ⟨ρ, w, Q', hH, a, h, k⟩ => ⟨ρ, w, _, hH, a, h, fun d w1 v q b1 r => ⟨ρ, w1, _, rfl, a.next b1, q, fun l w2 q2 b2 => ⟨ρ, w2, _, rfl, (a.next b1).next b2, q2, fun u w3 q3 b3 =>
    ⟨w3, d, Q', rfl, b3.ok, (r.mono b2.kp).mono b3.kp, q3, k.back ((b1.trans b2).trans b3)⟩⟩⟩⟩
end
end DL
/-! The data layer, part d: statements, loops, comprehensions, defs. -/
namespace DL
open PySem L2

structure DEnds where
  nx : DEnv → Mu → Prop
  rt : DK
  bk : DEnv → Mu → Prop := fun _ _ => False
  ct : DEnv → Mu → Prop := fun _ _ => False
abbrev DS := DEnds → DEnv → Mu → Prop
structure WE (K : PySem.W.Frag) (c w : Wd) (D' : DEnds) (D : Ends) : Prop where
  nx : ∀ ρ' w' σ', D'.nx ρ' w'.M → Bh K w w' → At K c w' ρ' σ' → D.nx σ' w'.H
  rt : Wv K w D'.rt D.rt
  bk : ∀ ρ' w' σ', D'.bk ρ' w'.M → Bh K w w' → At K c w' ρ' σ' → D.bk σ' w'.H
  ct : ∀ ρ' w' σ', D'.ct ρ' w'.M → Bh K w w' → At K c w' ρ' σ' → D.ct σ' w'.H
theorem WE.back {K : PySem.W.Frag} {c w w1 : Wd} {D' : DEnds} {D : Ends} (k : WE K c w D' D) (b : Bh K w w1) : WE K c w1 D' D where
  nx := fun ρ' w' σ' q b' a => k.nx ρ' w' σ' q (b.trans b') a
  rt := k.rt.back b
  bk := fun ρ' w' σ' q b' a => k.bk ρ' w' σ' q (b.trans b') a
  ct := fun ρ' w' σ' q b' a => k.ct ρ' w' σ' q (b.trans b') a
def liftS (K : PySem.W.Frag) (c : Wd) (t : DS) : TS := fun D σ H => ∃ ρ w D', w.H = H ∧ At K c w ρ σ ∧ t D' ρ w.M ∧ WE K c w D' D
abbrev PDS (c : Wd) (X : Cx) (st : Stmt) (t : DS) : Prop := PS X st (liftS X.K c t)
abbrev PDSs (c : Wd) (X : Cx) (st : List Stmt) (t : DS) : Prop := PSs X st (liftS X.K c t)
theorem PS_imp {X : Cx} {st : Stmt} {t t' : TS} (h : PS X st t) (i : ∀ D σ H, t' D σ H → t D σ H) : PS X st t' := ⟨fun pins s σ H D I q => h.run pins s σ H D I (i D σ H q)⟩
theorem PSs_imp {X : Cx} {st : List Stmt} {t t' : TS} (h : PSs X st t) (i : ∀ D σ H, t' D σ H → t D σ H) : PSs X st t' := ⟨fun pins s σ H D I q => h.run pins s σ H D I (i D σ H q)⟩
section
variable {X : Cx} {c : Wd} {st : Stmt} {rest body : List Stmt} {t u : DS} {e : Expr} {te : DE} {pos : Pos}
@[simp] def dNext : DS := fun D ρ M => D.nx ρ M
@[simp] def dSeq (t u : DS) : DS := fun D ρ M => t { nx := u D, rt := D.rt, bk := D.bk, ct := D.ct } ρ M
theorem pdss_nil : PDSs c X [] dNext := PSs_imp pss_nil fun D σ H ⟨ρ, w, D', hH, a, h, k⟩ => hH ▸ k.nx ρ w σ h (Bh.refl a.ok) a
theorem pdss_cons (h1 : PDS c X st t) (h2 : PDSs c X rest u) : PDSs c X (st :: rest) (dSeq t u) := PSs_imp (pss_cons h1 h2) fun D σ H ⟨ρ, w, D', hH, a, h, k⟩ =>
  ⟨ρ, w, _, hH, a, h, { nx := fun ρ' w' σ' q b a' => ⟨ρ', w', D', rfl, a', q, k.back b⟩, rt := k.rt, bk := k.bk, ct := k.ct }⟩
theorem pdss_one (h1 : PDS c X st t) : PDSs c X [st] t := PSs_imp (pss_one h1) fun D σ H h => h
@[simp] def dRet (te : DE) : DS := fun D ρ M => te ρ M D.rt
theorem pds_ret (he : PD c X e te) : PDS c X (.Return (some e) pos) (dRet te) := PS_imp (ps_ret he) fun D σ H ⟨ρ, w, D', hH, a, h, k⟩ => ⟨ρ, w, D'.rt, hH, a, h, k.rt⟩
@[simp] def dRetN : DS := fun D ρ M => D.rt .non M
theorem pds_retN : PDS c X (.Return none pos) dRetN := PS_imp ps_retN fun D σ H ⟨ρ, w, D', hH, a, h, k⟩ => hH ▸ k.rt.here a.ok h rfl
@[simp] def dDrop (te : DE) : DS := fun D ρ M => te ρ M fun _ M1 => D.nx ρ M1
theorem pds_expr (he : PD c X e te) (hs : swapsWith e none pos.line X.env = pure false := by rfl) : PDS c X (.Expr e pos) (dDrop te) := PS_imp (ps_expr he hs) fun D σ H ⟨ρ, w, D', hH, a, h, k⟩ =>
  ⟨ρ, w, _, hH, a, h, fun d w' v q b r => k.nx ρ w' σ q b (a.next b)⟩
theorem pds_pass : PDS c X (.Pass pos) dNext := PS_imp ps_pass fun D σ H ⟨ρ, w, D', hH, a, h, k⟩ => hH ▸ k.nx ρ w σ h (Bh.refl a.ok) a
@[simp] def dBrk : DS := fun D ρ M => D.bk ρ M
@[simp] def dCnt : DS := fun D ρ M => D.ct ρ M
theorem pds_break : PDS c X (.Break pos) dBrk := PS_imp ps_break fun D σ H ⟨ρ, w, D', hH, a, h, k⟩ => hH ▸ k.bk ρ w σ h (Bh.refl a.ok) a
theorem pds_continue : PDS c X (.Continue pos) dCnt := PS_imp ps_continue fun D σ H ⟨ρ, w, D', hH, a, h, k⟩ => hH ▸ k.ct ρ w σ h (Bh.refl a.ok) a
@[simp] def dIfS (t : DT) (u v : DS) : DS := fun D ρ M => t ρ M fun k M1 => if k = true then u D ρ M1 else v D ρ M1
theorem pds_if {tc : Expr} {p q : List Stmt} {tt : DT} (hc : PDT c X tc tt) (ha : PDSs c X p t) (hb : PDSs c X q u) : PDS c X (.If tc p q pos) (dIfS tt t u) := PS_imp (ps_if hc ha hb) fun D σ H ⟨ρ, w, D', hH, a, h, k⟩ =>
  ⟨ρ, w, _, hH, a, h, fun z w1 q b1 => by
    cases z with
    | true => exact iteT ⟨ρ, w1, D', rfl, a.next b1, q, k.back b1⟩
    | false => exact iteF ⟨ρ, w1, D', rfl, a.next b1, q, k.back b1⟩⟩

/-! ### targets -/
abbrev DG := D → DEnv → Mu → (DEnv → Mu → Prop) → Prop
/-- the same slots but for some -/
def Ag (vs : List Nat) (σ σ' : St) : Prop := σ'.length = σ.length ∧ ∀ i : Nat, i ∉ vs → σ'[i]? = σ[i]?
theorem Ag.refl (vs : List Nat) (σ : St) : Ag vs σ σ := ⟨rfl, fun _ _ => rfl⟩
theorem Ag.trans {vs : List Nat} {σ σ1 σ2 : St} (a : Ag vs σ σ1) (b : Ag vs σ1 σ2) : Ag vs σ σ2 := ⟨b.1.trans a.1, fun i h => (b.2 i h).trans (a.2 i h)⟩
theorem Ag.set {vs : List Nat} {σ : St} {i : Nat} {o : Option V} (h : i ∈ vs) : Ag vs σ (σ.set i o) := ⟨List.length_set, fun j hj => List.getElem?_set_ne (fun (e : i = j) => hj (by rw [← e]; exact h))⟩
theorem wipe_ag {vs : List Nat} {σ σ' : St} (h : Ag vs σ σ') : wipe σ' vs = wipe σ vs := by
  apply List.ext_getElem?
  intro i
  have hl := h.1
  by_cases hi : i ∈ vs
  · have hv : ∀ (τ : St), ∀ us : List Nat, i ∈ us → i < τ.length → (wipe τ us)[i]? = some none := by
      intro τ us
      induction us with
      | nil => intro z; cases z
      | cons u us ih =>
        intro z hlt
        unfold wipe
        by_cases e : u = i
        · subst e
          rw [List.getElem?_set_self (by rw [wipe_length]; exact hlt)]
        · rw [List.getElem?_set_ne e]
          rcases List.mem_cons.mp z with z | z
          · exact absurd z.symm e
          · exact ih z hlt
    by_cases hlt : i < σ.length
    · rw [hv σ' vs hi (by omega), hv σ vs hi hlt]
    · rw [List.getElem?_eq_none (by rw [wipe_length]; omega), List.getElem?_eq_none (by rw [wipe_length]; omega)]
  · rw [wipe_out hi, wipe_out hi, h.2 i hi]
theorem wipe_wipe {vs : List Nat} {σ : St} : Ag vs σ (wipe σ vs) := ⟨wipe_length σ vs, fun i hi => wipe_out hi⟩
def liftG (K : PySem.W.Frag) (c : Wd) (vs : List Nat) (g : DG) : TG := fun v σ H Q => ∃ d ρ w Q', w.H = H ∧ At K c w ρ σ ∧ Rp K w d v ∧ g d ρ w.M Q' ∧ ∀ ρ' w' σ', Q' ρ' w'.M → Bh K w w' → At K c w' ρ' σ' → Ag vs σ σ' → Q σ' w'.H
abbrev PDG (c : Wd) (X : Cx) (vs : List Nat) (e : Expr) (g : DG) : Prop := PG X e (liftG X.K c vs g)
theorem PG_imp {e : Expr} {g g' : TG} (h : PG X e g) (i : ∀ v σ H Q, g' v σ H Q → g v σ H Q) : PG X e g' := ⟨fun pins s σ H v u Q I r q => h.run pins s σ H v u Q I r (i _ _ _ _ q)⟩
@[simp] def gNm (i : Nat) : DG := fun d ρ M Q => Q (ρ.set i (some d)) M
variable {vs : List Nat}
theorem pdg_name {i : Nat} {x : Str} (hN : X.N.Nodup) (hi : X.N[i]? = some x := by rfl) (hx : Loc X.env.scope x := by first | exact Or.inl rfl | exact Or.inr rfl) (hf : X.fn x = true ∨ X.env.scope.names.lookup x = some .local := by first | exact .inl rfl | exact .inr rfl) (hvs : i ∈ vs := by simp) : PDG c X vs (.Name x pos) (gNm i) :=
  PG_imp (pg_name hN hi hx hf) fun v σ H Q ⟨d, ρ, w, Q', hH, a, r, h, k⟩ => hH ▸ k _ w _ h (Bh.refl a.ok) (a.set r) (Ag.set hvs)
abbrev DGs := List D → DEnv → Mu → (DEnv → Mu → Prop) → Prop
def liftGs (K : PySem.W.Frag) (c : Wd) (us : List Nat) (g : DGs) : TGs := fun vs σ H Q => ∃ ds ρ w Q', w.H = H ∧ At K c w ρ σ ∧ RpL K w ds vs ∧ g ds ρ w.M Q' ∧ ∀ ρ' w' σ', Q' ρ' w'.M → Bh K w w' → At K c w' ρ' σ' → Ag us σ σ' → Q σ' w'.H
abbrev PDGs (c : Wd) (X : Cx) (vs : List Nat) (es : List Expr) (g : DGs) : Prop := PGs X es (liftGs X.K c vs g)
theorem PGs_imp {es : List Expr} {g g' : TGs} (h : PGs X es g) (i : ∀ v σ H Q, g' v σ H Q → g v σ H Q) : PGs X es g' := ⟨fun pins s σ H v u Q I r q => h.run pins s σ H v u Q I r (i _ _ _ _ q)⟩
@[simp] def gsNil : DGs := fun ds ρ M Q => match ds with | [] => Q ρ M | _ => False
@[simp] def gsCons (g : DG) (k : DGs) : DGs := fun ds ρ M Q => match ds with | d :: r => g d ρ M (fun ρ' M' => k r ρ' M' Q) | [] => False
theorem pdgs_nil : PDGs c X vs [] gsNil := PGs_imp pgs_nil fun us σ H Q ⟨ds, ρ, w, Q', hH, a, r, h, k⟩ => by
  cases ds with
  | nil => exact ⟨r, hH ▸ k ρ w σ h (Bh.refl a.ok) a (Ag.refl _ _)⟩
  | cons d ds => exact h.elim
theorem pdgs_cons {es : List Expr} {g : DG} {gs : DGs} (h1 : PDG c X vs e g) (h2 : PDGs c X vs es gs) (hs : (assignEach (e :: es) X.env).map (·.2) = assign e X.env :: (assignEach es X.env).map (·.2) := by rfl) : PDGs c X vs (e :: es) (gsCons g gs) :=
  PGs_imp (pgs_cons h1 h2 hs) fun us σ H Q ⟨ds, ρ, w, Q', hH, a, r, h, k⟩ => by
  cases ds with
  | nil => exact h.elim
  | cons d ds =>
    obtain ⟨x, q, rfl, r1, r2⟩ := r
    exact ⟨x, q, rfl, d, ρ, w, _, hH, a, r1, h, fun ρ' w' σ' q' b a' g1 => ⟨ds, ρ', w', Q', rfl, a', r2.mono b.kp, q', fun ρ'' w'' σ'' q'' b' a'' g2 => k ρ'' w'' σ'' q'' (b.trans b') a'' (g1.trans g2)⟩⟩
@[simp] def gTp (g : DGs) (n : Nat) : DG := fun d ρ M Q => match d with | .tup ds => ds.length = n ∧ g ds ρ M Q | _ => False
theorem pdg_tup {es : List Expr} {k : Nat} {g : DGs} {n : Nat} (hc : X.calm = true) (h : PDGs c X vs es g) (hn : (assignEach es X.env).length = n := by rfl) (hst : (assignEach es X.env).findIdx? (·.1) = none := by rfl) : PDG c X vs (.Tuple es k pos) (gTp g n) :=
  PG_imp (pg_tup hc h hn hst) fun v σ H Q ⟨d, ρ, w, Q', hH, a, r, h, k⟩ => by
  cases d with
  | tup ds =>
    obtain ⟨p, xs, rfl, l, s1⟩ := r
    subst hH
    exact ⟨p, xs, rfl, l.sq, by rw [s1.length]; exact h.1, ds, ρ, w, Q', rfl, a, s1, h.2, k⟩
  | _ => exact h.elim
@[simp] def dAsg (te : DE) (g : DG) : DS := fun D ρ M => te ρ M fun d M1 => g d ρ M1 D.nx
theorem pds_asg {tg : Expr} {g : DG} (he : PD c X e te) (hg : PDG c X vs tg g) (hs : swapsWithSole [tg] e pos.line X.env = pure false := by rfl) (hw : swappedStores [tg] e X.env = pure none := by rfl) (h1 : (assignEach [tg] X.env).map (·.2) = [assign tg X.env] := by rfl) : PDS c X (.Assign [tg] e pos) (dAsg te g) :=
  PS_imp (ps_asg he hg hs hw h1) fun D σ H ⟨ρ, w, D', hH, a, h, k⟩ => ⟨ρ, w, _, hH, a, h, fun d w1 v q b r => ⟨d, ρ, w1, D'.nx, rfl, a.next b, r, q, fun ρ' w' σ' q' b' a' _ => k.nx ρ' w' σ' q' (b.trans b') a'⟩⟩
theorem pds_set {i : Nat} {x : Str} {pos' : Pos} (hN : X.N.Nodup) (he : PD c X e te) (hi : X.N[i]? = some x := by rfl) (hx : Loc X.env.scope x := by first | exact Or.inl rfl | exact Or.inr rfl) (hs : swapsWith e (some (.Name x pos')) pos.line X.env = pure false := by rfl) (hf : X.fn x = true ∨ X.env.scope.names.lookup x = some .local := by first | exact .inl rfl | exact .inr rfl) :
    PDS c X (.Assign [.Name x pos'] e pos) (dAsg te (gNm i)) :=
  PS_imp (ps_set hN hi hx he hs hf) fun D σ H ⟨ρ, w, D', hH, a, h, k⟩ => ⟨ρ, w, _, hH, a, h, fun d w1 v q b r => k.nx _ w1 _ q b ((a.next b).set r)⟩
/-- a, b = e1, e2 -/
@[simp] def dPar (i j : Nat) (ta : DA) : DS := fun D ρ M => ta ρ M fun ds M1 => match ds with | [d, e] => D.nx ((ρ.set i (some d)).set j (some e)) M1 | _ => False

/-! ### what is walked -/
abbrev DI := DEnv → Mu → (List D → Mu → Prop) → Prop
/-- J yields these data, one after another, while what is free stays -/
def IsIt (K : PySem.W.Frag) (w : Wd) (ds : List D) (J : It) : Prop := ∀ w', Kp w w' → Ok K w' →
  (∀ i d, ds[i]? = some d → J.go i w'.H ∧ ∀ x H'', J.yld i w'.H x H'' → Bh K w' (w'.at H'') ∧ Rp K (w'.at H'') d x) ∧ J.stop ds.length w'.H
def liftI (K : PySem.W.Frag) (c : Wd) (t : DI) : TI := fun σ H R => ∃ ρ w Q', w.H = H ∧ At K c w ρ σ ∧ t ρ w.M Q' ∧ ∀ ds w' J, Q' ds w'.M → Bh K w w' → IsIt K w' ds J → R J w'.H
abbrev PDI (c : Wd) (X : Cx) (tg iter : Expr) (t : DI) : Prop := PI X tg iter (liftI X.K c t)
theorem PI_imp {tg e : Expr} {t t' : TI} (h : PI X tg e t) (i : ∀ σ H Q, t' σ H Q → t σ H Q) : PI X tg e t' := ⟨fun pins s σ H Q I q => h.run pins s σ H Q I (i σ H Q q)⟩
theorem isIt_l {K : PySem.W.Frag} {w : Wd} {ds : List D} {t : Nat} {a : Addr} {xs : List V} (h : LsAt w t a xs) (r : RpL K w ds xs) : IsIt K w ds (Itl K a) := fun w' k ok => by
  have h' := k.lst h
  have r' := r.mono k
  have hl := r'.length
  refine ⟨fun i d e => ?_, ⟨xs, h'.sq, by omega⟩⟩
  obtain ⟨v, e1, r1⟩ := r'.at e
  refine ⟨⟨xs, v, h'.sq, e1⟩, fun x H'' y => ?_⟩
  obtain ⟨rfl, y⟩ := y
  have := y xs h'.sq
  rw [e1] at this
  cases this
  exact ⟨Bh.refl ok, r1⟩
theorem isIt_t {K : PySem.W.Frag} {w : Wd} {ds : List D} {a : Addr} {xs : List V} (h : TuAt K w a xs) (r : RpL K w ds xs) : IsIt K w ds (Itt K a) := fun w' k ok => by
  have h' := h.mono k
  have r' := r.mono k
  have hl := r'.length
  refine ⟨fun i d e => ?_, ⟨xs, h'.sq, by omega⟩⟩
  obtain ⟨v, e1, r1⟩ := r'.at e
  refine ⟨⟨xs, v, h'.sq, e1⟩, fun x H'' y => ?_⟩
  obtain ⟨rfl, y⟩ := y
  have := y xs h'.sq
  rw [e1] at this
  cases this
  exact ⟨Bh.refl ok, r1⟩
def signs (z : Str) : List D := z.cps.toList.map fun c => .str ⟨#[c]⟩
theorem isIt_s {K : PySem.W.Frag} {w : Wd} {z : Str} : IsIt K w (signs z) (Its z) := fun w' k ok => by
  refine ⟨fun i d e => ?_, by show z.cps.size ≤ (signs z).length; simp [signs]⟩
  unfold signs at e
  rw [List.getElem?_map] at e
  cases ec : z.cps.toList[i]? with
  | none => rw [ec] at e; cases e
  | some ch =>
    rw [ec] at e
    cases e
    have ha : z.cps[i]? = some ch := by simpa using ec
    refine ⟨?_, fun x H'' y => ?_⟩
    · exact (Array.getElem?_eq_some_iff.mp ha).1
    · obtain ⟨rfl, ch', h1, rfl⟩ := y
      rw [ha] at h1
      cases h1
      exact ⟨Bh.refl ok, rfl⟩
theorem isIt_r {K : PySem.W.Frag} {w : Wd} {lo : Int} {n : Nat} : IsIt K w ((List.range n).map fun (i : Nat) => .int (lo + i)) (Itr lo n) := fun w' k ok => by
  refine ⟨fun i d e => ?_, by show n ≤ _; simp⟩
  rw [List.getElem?_map] at e
  by_cases hi : i < n
  · rw [List.getElem?_range hi] at e
    cases e
    refine ⟨hi, fun x H'' y => ?_⟩
    obtain ⟨rfl, rfl⟩ := y
    exact ⟨Bh.refl ok, rfl⟩
  · rw [List.getElem?_eq_none (by simp; omega)] at e
    cases e
/-- a list, a tuple, a text: what is walked -/
@[simp] def dIt (te : DE) : DI := fun ρ M Q => te ρ M fun d M1 => match d with
  | .lst _ ds => Q ds M1
  | .tup ds => Q ds M1
  | .str z => Q (signs z) M1
  | _ => False
theorem pi_any {tg : Expr} {tl : TE} (hl : PE X e tl) : PI X tg e (fun σ H R => tl σ H fun x H1 => (∃ a, x = .ref a ∧ (∃ xs, SqL X.K H1 a xs) ∧ R (Itl X.K a) H1) ∨ (∃ a, x = .ref a ∧ (∃ xs, SqT X.K H1 a xs) ∧ R (Itt X.K a) H1) ∨ ∃ z, x = .str z ∧ R (Its z) H1) := by
  refine ⟨fun pins s σ H R I h => ?_⟩
  refine thn (hl.run pins s σ H _ I h) fun v s1 ⟨x, H1, I1, r1, q1⟩ => ?_
  rcases q1 with ⟨a, e, ⟨xs, hq⟩, q⟩ | ⟨a, e, ⟨xs, hq⟩, q⟩ | ⟨z, ex, q⟩
  · subst e
    cases r1
    obtain ⟨its, rv, p, hz⟩ := I1.list hq
    refine wpAny_pyIter_list p.isList ?_
    refine ⟨s1.heap.objs.size, [s1.heap.objs.size], _, _, H1, rfl, I1.kept (t' := s1.toks) fun b o e => Heap.get?_push_of_some _ e, turn_list a _, ⟨_, Heap.get?_push_size _ rfl, rfl, rfl⟩, fun b hb => ?_, q⟩
    have e : b = s1.heap.objs.size := by simpa using hb
    subst e
    exact I1.fpOk (Nat.le_refl _) (I1.hok.fresh (Nat.le_refl _))
  · subst e
    cases r1
    obtain ⟨its, rv, p, hz⟩ := I1.tuple hq
    refine wpAny_pyIter_tuple (show s1.heap.IsTuple a its.toArray from p) ?_
    refine ⟨s1.heap.objs.size, [s1.heap.objs.size], _, _, H1, rfl, I1.kept (t' := s1.toks) fun b o e => Heap.get?_push_of_some _ e, turn_tuple a _, ⟨_, Heap.get?_push_size _ rfl, rfl, rfl⟩, fun b hb => ?_, q⟩
    have e : b = s1.heap.objs.size := by simpa using hb
    subst e
    exact I1.fpOk (Nat.le_refl _) (I1.hok.fresh (Nat.le_refl _))
  · subst ex
    obtain ⟨t, rfl⟩ := r1
    cases ha : z.cps.all (· < 128)
    · exact PySem.wpAny_pyIter_wide ha (pi_one (tk := s1.toks) I1 _ (turn_str _ z t "str_iterator" (.inr rfl)) ⟨_, Heap.get?_push_size _ rfl, rfl, rfl⟩ q)
    · exact PySem.wpAny_pyIter_ascii ha (pi_one (tk := s1.toks) I1 _ (turn_str _ z t "str_ascii_iterator" (.inl rfl)) ⟨_, Heap.get?_push_size _ rfl, rfl, rfl⟩ q)
theorem pdi_any {tg : Expr} (he : PD c X e te) : PDI c X tg e (dIt te) := PI_imp (pi_any he) fun σ H R ⟨ρ, w, Q', hH, a, h, k⟩ => ⟨ρ, w, _, hH, a, h, fun d w1 v q b r => by
  cases d with
  | lst t ds => obtain ⟨p, xs, rfl, l, s1⟩ := r; exact .inl ⟨p, rfl, ⟨xs, l.sq⟩, k ds w1 _ q b (isIt_l l s1)⟩
  | tup ds => obtain ⟨p, xs, rfl, l, s1⟩ := r; exact .inr (.inl ⟨p, rfl, ⟨xs, l.sq⟩, k ds w1 _ q b (isIt_t l s1)⟩)
  | str z => obtain rfl : v = .str z := r; exact .inr (.inr ⟨z, rfl, k _ w1 _ q b isIt_s⟩)
  | _ => exact q.elim⟩
end
end DL
/-! The data layer, part e: loops, comprehensions, defs and calls. -/
namespace DL
open PySem L2
section
variable {X : Cx} {c : Wd} {st : Stmt} {rest body : List Stmt} {t u tb : DS} {e : Expr} {te : DE} {pos : Pos} {ti : DI} {g : DG} {vs : List Nat}
/-! ### for -/
def fori (g : DG) (body : DS) : List D → DS
  | [] => fun D ρ M => D.nx ρ M
  | x :: xs => fun D ρ M => g x ρ M fun ρ1 M1 => body { nx := fori g body xs D, rt := D.rt, bk := D.nx, ct := fori g body xs D } ρ1 M1
@[simp] def dFor (ti : DI) (g : DG) (body : DS) : DS := fun D ρ M => ti ρ M fun ds M1 => fori g body ds D ρ M1
theorem for_imp {K : PySem.W.Frag} {D : Ends} {σ : St} {H : Hp} (h : liftS K c (dFor ti g tb) D σ H) : tFor (liftI K c ti) (liftG K c vs g) (liftS K c tb) D σ H := by
  obtain ⟨ρ, w, D', hH, a, h, k⟩ := h
  refine ⟨ρ, w, _, hH, a, h, fun ds w1 J q b1 it => ?_⟩
  refine ⟨fun i m σ' H' => m = ds.length - i ∧ i ≤ ds.length ∧ ∃ ρ' w', w'.H = H' ∧ At K c w' ρ' σ' ∧ Bh K w1 w' ∧ fori g tb (ds.drop i) D' ρ' w'.M, ⟨ds.length, by simp, Nat.zero_le _, ρ, w1, rfl, a.next b1, Bh.refl b1.ok, by rw [List.drop_zero]; exact q⟩, ?_⟩
  rintro i m σ' H' ⟨rfl, hi, ρ', w', rfl, a', b', hf⟩
  obtain ⟨hgo, hst⟩ := it w' b'.kp b'.ok
  by_cases hlt : i < ds.length
  · right
    have e0 : ds.drop i = ds[i] :: ds.drop (i + 1) := List.drop_eq_getElem_cons hlt
    have e1 : ds[i]? = some ds[i] := List.getElem?_eq_getElem hlt
    rw [e0] at hf
    obtain ⟨g1, g2⟩ := hgo i _ e1
    refine ⟨g1, fun σ2 H2 => ∃ ρ2 w2, w2.H = H2 ∧ At K c w2 ρ2 σ2 ∧ Bh K w1 w2 ∧ fori g tb (ds.drop (i + 1)) D' ρ2 w2.M, fun σ2 H2 ⟨ρ2, w2, h1, h2, h3, h4⟩ => ⟨ds.length - (i + 1), by omega, rfl, hlt, ρ2, w2, h1, h2, h3, h4⟩, fun x H'' y => ?_⟩
    obtain ⟨b2, r2⟩ := g2 x H'' y
    refine ⟨ds[i], ρ', w'.at H'', _, rfl, a'.next b2, r2, hf, fun ρ3 w3 σ3 q3 b3 a3 _ => ?_⟩
    refine ⟨ρ3, w3, _, rfl, a3, q3, ?_⟩
    have b03 : Bh K w1 w3 := (b'.trans b2).trans b3
    exact { nx := fun ρ4 w4 σ4 q4 b4 a4 => ⟨ρ4, w4, rfl, a4, b03.trans b4, q4⟩
            rt := k.rt.back (b1.trans b03)
            bk := fun ρ4 w4 σ4 q4 b4 a4 => k.nx ρ4 w4 σ4 q4 ((b1.trans b03).trans b4) a4
            ct := fun ρ4 w4 σ4 q4 b4 a4 => ⟨ρ4, w4, rfl, a4, b03.trans b4, q4⟩ }
  · left
    have e : i = ds.length := by omega
    subst e
    rw [List.drop_length] at hf
    exact ⟨hst, k.nx ρ' w' σ' hf (b1.trans b') a'⟩
theorem pds_for {tg iter : Expr} (hp : PassesOwn (model X.prog X.w) X.A X.env X.xe) (hc : X.calm = true) (hi : PDI c X tg iter ti) (hg : PDG c X vs tg g) (hb : PDSs c X body tb) (hs : ∀ x, foldedSetIterable iter X.env x = pure x := by intro _; rfl) :
    PDS c X (.For tg iter body [] pos) (dFor ti g tb) := PS_imp (ps_for hp hc hi hg hb hs) fun D σ H h => for_imp h

/-! ### comprehensions -/
def wipeD (ρ : DEnv) : List Nat → DEnv
  | [] => ρ
  | v :: vs => (wipeD ρ vs).set v none
theorem wipeD_len (ρ : DEnv) : ∀ vs : List Nat, (wipeD ρ vs).length = ρ.length
  | [] => rfl
  | v :: vs => by unfold wipeD; rw [List.length_set, wipeD_len ρ vs]
theorem wipeD_some {ρ : DEnv} {i : Nat} {x : D} : ∀ {vs : List Nat}, (wipeD ρ vs)[i]? = some (some x) → ρ[i]? = some (some x) ∧ i ∉ vs
  | [], h => ⟨h, by simp⟩
  | v :: vs, h => by
    unfold wipeD at h
    by_cases hi : v = i
    · subst hi
      by_cases hv : v < (wipeD ρ vs).length
      · rw [List.getElem?_set_self hv] at h; cases h
      · rw [List.getElem?_eq_none (by simpa using hv)] at h; cases h
    · rw [List.getElem?_set_ne hi] at h
      obtain ⟨h1, h2⟩ := wipeD_some h
      exact ⟨h1, by simp only [List.mem_cons, not_or]; exact ⟨fun e => hi e.symm, h2⟩⟩
theorem RE.wipe {K : PySem.W.Frag} {w : Wd} {ρ : DEnv} {σ : St} (r : RE K w ρ σ) (vs : List Nat) : RE K w (wipeD ρ vs) (wipe σ vs) := ⟨by rw [wipe_length, wipeD_len]; exact r.1, fun i d e => by
  obtain ⟨h1, h2⟩ := wipeD_some e
  obtain ⟨v, h3, h4⟩ := r.2 i d h1
  exact ⟨v, by rw [wipe_out h2]; exact h3, h4⟩⟩
def compi (g : DG) (tt : DT) (te : DE) (ρ : DEnv) : List D → List D → Mu → DK → Prop
  | [], acc, M, Q => Q (.lst 0 acc) M
  | x :: xs, acc, M, Q => g x ρ M fun ρ1 M1 => tt ρ1 M1 fun b M2 => if b = true then te ρ1 M2 fun d M3 => acc.length < 100000 ∧ compi g tt te ρ xs (acc ++ [d]) M3 Q else compi g tt te ρ xs acc M2 Q
@[simp] def dLc (ti : DI) (g : DG) (tt : DT) (te : DE) (vs : List Nat) : DE := fun ρ M Q => ti ρ M fun ds M1 => compi g tt te (wipeD ρ vs) ds [] M1 Q
/-- the world while a list at L is made -/
def mk (w : Wd) (L : Addr) (xs : List V) : Wd := { hd := upd w.hd L (.lst xs), ln := w.ln, ex := w.ex, cl := w.cl, tb := w.tb, M := w.M, H := upd w.H L (.lst xs) }
theorem fr_mk {w : Wd} {L a : Addr} {xs : List V} : Fr (mk w L xs) a ↔ Fr w a ∧ a ≠ L := by
  constructor
  · rintro ⟨h1, h2, h3⟩
    have hne : a ≠ L := fun e => by subst e; rw [show (mk w a xs).hd a = some (.lst xs) from upd_same] at h2; cases h2
    exact ⟨⟨h1, by rw [← h2]; exact (upd_ne hne).symm, h3⟩, hne⟩
  · rintro ⟨⟨h1, h2, h3⟩, hne⟩
    exact ⟨h1, by rw [← h2]; exact upd_ne hne, h3⟩
/-- the list is begun, or grown -/
theorem kp_mk {K : PySem.W.Frag} {w : Wd} {L : Addr} {xs : List V} (o : Ok K w) (h : w.H L = none ∨ ∃ u, w.hd L = some u) : Kp w (mk w L xs) := by
  refine Kp.of (fun a u hf e _ => ?_) (fun r a u e => ⟨e, fun q => ?_⟩) rfl rfl rfl
  · have hne : a ≠ L := fun z => by
      subst z
      rcases h with h | ⟨u', h⟩
      · rw [e] at h; cases h
      · rw [hf.h] at h; cases h
    exact ⟨fr_mk.mpr ⟨hf, hne⟩, by show upd w.H L _ a = _; rw [upd_ne hne]; exact e⟩
  · have hne : a ≠ L := fun z => by
      subst z
      rcases h with h | ⟨u', h⟩
      · rw [q] at h; cases h
      · rw [(o.lap r a u e).2] at h; cases h
    show upd w.H L _ a = _; rw [upd_ne hne]; exact q
theorem ok_mk {K : PySem.W.Frag} {w : Wd} {L : Addr} {xs : List V} (o : Ok K w) (h : w.H L = none ∨ ∃ u, w.hd L = some u) : Ok K (mk w L xs) := by
  have hM : w.M L = none := by
    rcases h with h | ⟨u', h⟩
    · exact (o.fresh h).m
    · cases e : w.M L with
      | none => rfl
      | some m => have := o.ap L m e; rw [h] at this; cases this
  have hln : ∀ r a u, w.ln r a = some u → a ≠ L := fun r a u e z => by
    subst z
    rcases h with h | ⟨u', h⟩
    · rw [o.len r a u e] at h; cases h
    · rw [(o.lap r a u e).2] at h; cases h
  refine ⟨fun a m e => (o.mo a m e).mono (kp_mk o h) ?_, fun a u e => ?_, fun a m e => ?_, fun r a u e => ?_, fun r a u e => ⟨(o.lap r a u e).1, ?_⟩, o.lfr, fun a u e => ?_, o.ll, ?_⟩
  · have hne : a ≠ L := fun z => by subst z; rw [show (mk w a xs).M a = w.M a from rfl, hM] at e; cases e
    show upd w.H L _ a = _; rw [upd_ne hne]
  · by_cases z : a = L
    · subst z
      have : (mk w a xs).hd a = some (.lst xs) := upd_same
      rw [this] at e; cases e
      exact upd_same
    · have e' : w.hd a = some u := by
        have q : (mk w L xs).hd a = w.hd a := upd_ne z
        rw [← q]; exact e
      show upd w.H L _ a = _; rw [upd_ne z]; exact o.hid a u e'
  · have hne : a ≠ L := fun z => by subst z; rw [show (mk w a xs).M a = w.M a from rfl, hM] at e; cases e
    show upd w.hd L _ a = _; rw [upd_ne hne]; exact o.ap a m e
  · show upd w.H L _ a = _; rw [upd_ne (hln r a u e)]; exact o.len r a u e
  · show upd w.hd L _ a = _; rw [upd_ne (hln r a u e)]; exact (o.lap r a u e).2
  · by_cases z : a = L
    · subst z
      have q : (mk w a xs).hd a = some (.lst xs) := upd_same
      rw [q] at e; cases e; exact ⟨_, rfl⟩
    · have q : (mk w L xs).hd a = w.hd a := upd_ne z
      rw [q] at e; exact o.hl a u e
  · rcases h with h | ⟨u', h⟩
    · exact o.tabs.ext fun b v q => by show upd w.H L _ b = _; rw [upd_ne (ne_of_none q h)]; exact q
    · obtain ⟨ys, rfl⟩ := o.hl L u' h
      exact tabs_upd o.tabs (o.hid L _ h) (fun _ z => nomatch z) (fun _ z => nomatch z)
/-- the list is shown -/
theorem shown {K : PySem.W.Frag} {w1 w' : Wd} {L : Addr} {xs : List V} (fL : Fr w1 L) (hhd : w'.hd = upd w1.hd L (.lst xs)) (ok' : Ok K w') : Kp w' { w' with hd := w1.hd } ∧ Ok K { w' with hd := w1.hd } ∧ Fr { w' with hd := w1.hd } L := by
  have hdL : w'.hd L = some (.lst xs) := by rw [hhd]; exact upd_same
  have hM : w'.M L = none := by
    cases e : w'.M L with
    | none => rfl
    | some m => have := ok'.ap L m e; rw [hdL] at this; cases this
  have hl : ∀ r, w'.ln r L = none := fun r => by
    cases e : w'.ln r L with
    | none => rfl
    | some m => have := (ok'.lap r L m e).2; rw [hdL] at this; cases this
  have nh : ∀ x, w'.hd x = none → w1.hd x = none := fun x z => by
    rw [hhd] at z
    have hne : x ≠ L := fun q => by subst q; rw [upd_same] at z; cases z
    rw [upd_ne hne] at z; exact z
  have hd6 : ∀ x u, w1.hd x = some u → w'.hd x = some u := fun x u e => by
    have hne : x ≠ L := fun q => by subst q; rw [fL.h] at e; cases e
    rw [hhd, upd_ne hne]; exact e
  have kp6 : Kp w' { w' with hd := w1.hd } := Kp.of (fun x u hf e _ => ⟨⟨hf.m, nh x hf.h, hf.l⟩, e⟩) (fun _ _ _ e => ⟨e, id⟩) rfl rfl rfl
  refine ⟨kp6, ⟨fun x m e => (ok'.mo x m e).mono kp6 rfl, fun x u e => ok'.hid x u (hd6 x u e), fun x m e => nh x (ok'.ap x m e), ok'.len, fun r x u e => ⟨(ok'.lap r x u e).1, nh x (ok'.lap r x u e).2⟩, ok'.lfr, fun x u e => ok'.hl x u (hd6 x u e), ok'.ll, ok'.tabs⟩, ⟨hM, fL.h, hl⟩⟩
/-! in a comprehension's block: the entry is taken anew -/
def liftB (K : PySem.W.Frag) (c0 : Wd) (t : DE) : TE := fun σ H Q => ∃ c, SC c0 c ∧ lift K c t σ H Q
def liftTB (K : PySem.W.Frag) (c0 : Wd) (t : DT) : TT := fun σ H Q => ∃ c, SC c0 c ∧ liftT K c t σ H Q
def liftGB (K : PySem.W.Frag) (c0 : Wd) (vs : List Nat) (t : DG) : TG := fun v σ H Q => ∃ c, SC c0 c ∧ liftG K c vs t v σ H Q
theorem At.self {K : PySem.W.Frag} {c w : Wd} {ρ : DEnv} {σ : St} (a : At K c w ρ σ) : At K w w ρ σ := ⟨Kp.refl w, a.re, a.ok, rfl, rfl⟩
theorem comp_imp {K : PySem.W.Frag} {tt : DT} {us : List Nat} (hsub : ∀ i ∈ us, i ∈ vs) {σ : St} {H : Hp} {Q : VK} (h : lift K c (dLc ti g tt te vs) σ H Q) : tLc (liftI K c ti) (liftGB K c us g) (liftTB K c tt) (liftB K c te) vs σ H Q := by
  obtain ⟨ρ, w, Q', hH, a, h, k⟩ := h
  refine ⟨ρ, w, _, hH, a, h, fun ds w1 J q b1 it L hL => ?_⟩
  have a1 := a.next b1
  have fL := b1.ok.fresh hL
  refine ⟨fun i m H' => m = ds.length - i ∧ i ≤ ds.length ∧ ∃ w' acc xs, w'.H = H' ∧ w'.hd = upd w1.hd L (.lst xs) ∧ w'.ln = w1.ln ∧ Kp w1 w' ∧ Ok K w' ∧ RpL K w' acc xs ∧ compi g tt te (wipeD ρ vs) (ds.drop i) acc w'.M Q',
    ⟨ds.length, by simp, Nat.zero_le _, mk w1 L [], [], [], rfl, rfl, rfl, kp_mk b1.ok (.inl hL), ok_mk b1.ok (.inl hL), rfl, by rw [List.drop_zero]; exact q⟩, ?_⟩
  rintro i m H' ⟨rfl, hi, w', acc, xs, rfl, hhd, hln, kp', ok', racc, hf⟩
  have hdL : w'.hd L = some (.lst xs) := by rw [hhd]; exact upd_same
  obtain ⟨hgo, hst⟩ := it w' kp' ok'
  by_cases hlt : i < ds.length
  · right
    have e0 : ds.drop i = ds[i] :: ds.drop (i + 1) := List.drop_eq_getElem_cons hlt
    have e1 : ds[i]? = some ds[i] := List.getElem?_eq_getElem hlt
    rw [e0] at hf
    obtain ⟨g1, g2⟩ := hgo i _ e1
    refine ⟨g1, fun H2 => ∃ w2 acc2 xs2, w2.H = H2 ∧ w2.hd = upd w1.hd L (.lst xs2) ∧ w2.ln = w1.ln ∧ Kp w1 w2 ∧ Ok K w2 ∧ RpL K w2 acc2 xs2 ∧ compi g tt te (wipeD ρ vs) (ds.drop (i + 1)) acc2 w2.M Q', fun H2 ⟨w2, acc2, xs2, h1, h2, h3, h4, h5, h6, h7⟩ => ⟨ds.length - (i + 1), by omega, rfl, hlt, w2, acc2, xs2, h1, h2, h3, h4, h5, h6, h7⟩, fun x H'' y => ?_⟩
    obtain ⟨b2, r2⟩ := g2 x H'' y
    have at2 : At K (w'.at H'') (w'.at H'') (wipeD ρ vs) (wipe σ vs) := ⟨Kp.refl _, ((a1.re.wipe vs).mono kp').mono b2.kp, b2.ok, rfl, rfl⟩
    have cl2 : SC c (w'.at H'') := ((a1.kp.trans kp').trans b2.kp).sc
    refine ⟨w'.at H'', cl2, ds[i], wipeD ρ vs, w'.at H'', _, rfl, at2, r2, hf, fun ρ3 w3 σ3 q3 b3 a3 g3 => ?_⟩
    have hag : Ag vs (wipe σ vs) σ3 := ⟨g3.1, fun j hj => g3.2 j (fun z => hj (hsub j z))⟩
    refine ⟨by rw [wipe_ag hag, wipe_ag wipe_wipe], w3, cl2.trans b3.kp.sc, ρ3, w3, _, rfl, a3.self, q3, fun b w4 q4 b4 => ?_⟩
    have b24 : Bh K w' w4 := (b2.trans b3).trans b4
    cases b with
    | false =>
      refine iteF ⟨w4, acc, xs, rfl, b24.hd.trans hhd, b24.ln.trans hln, kp'.trans b24.kp, b24.ok, racc.mono b24.kp, ?_⟩
      exact q4
    | true =>
      refine iteT ⟨w4, (cl2.trans b3.kp.sc).trans b4.kp.sc, ρ3, w4, _, rfl, (a3.next b4).self, q4, fun d w5 v q5 b5 r5 => ?_⟩
      have b25 : Bh K w' w5 := b24.trans b5
      have hd5 : w5.hd L = some (.lst xs) := by rw [b25.hd]; exact hdL
      have r5' := racc.mono b25.kp
      refine ⟨xs, b25.ok.hid L _ hd5, szlt (by rw [racc.length]; exact q5.1), mk w5 L (xs ++ [v]), acc ++ [d], xs ++ [v], rfl, ?_, b25.ln.trans hln, (kp'.trans b25.kp).trans (kp_mk b25.ok (.inr ⟨_, hd5⟩)), ok_mk b25.ok (.inr ⟨_, hd5⟩), (r5'.append (RpL.one r5)).mono (kp_mk b25.ok (.inr ⟨_, hd5⟩)), q5.2⟩
      show upd w5.hd L _ = _
      rw [b25.hd, hhd, upd_upd]
  · left
    have e : i = ds.length := by omega
    subst e
    rw [List.drop_length] at hf
    refine ⟨hst, ?_⟩
    obtain ⟨kp6, ok6, f6⟩ := shown fL hhd ok'
    exact k (.lst 0 acc) { w' with hd := w1.hd } (.ref L) hf ⟨(b1.kp.trans kp').trans kp6, ok6, b1.hd, hln.trans b1.ln⟩ ⟨L, xs, rfl, LsAt.free f6 (ok'.hid L _ hdL), racc.mono kp6⟩
abbrev PDTs (c : Wd) (X : Cx) (ifs : List Expr) (t : DT) : Prop := PTs X ifs (liftT X.K c t)
@[simp] def dYes : DT := fun _ M Q => Q true M
theorem pdts_nil : PDTs c X [] dYes := ⟨fun pins s σ H Q I ⟨ρ, w, Q', hH, a, h, k⟩ => pts_nil.run pins s σ H Q I (hH ▸ k true w h (Bh.refl a.ok))⟩
theorem pdts_one {ce : Expr} {tt : DT} (h : PDT c X ce tt) : PDTs c X [ce] tt := pts_one h
theorem pd_lc {elt tg iter : Expr} {ifs : List Expr} {scope : Scope} {own : List (Str × Nat)} {us : List Nat} {tt : DT} (hc : X.calm = true) (hN : X.N.Nodup) (hi : PDI c X tg iter ti) (ok : BlkOk X.N X.env.scope scope own)
    (hg : ∀ (c' : Wd), SC c c' → ∀ (s : Shared) (H : Hp) (C : Addr) (cl : List (Str × Addr)) (fp : List Addr), PDG c' (X.blk s H scope (compEnvC scope cl C X.env) fp) us tg g) (ht : ∀ (c' : Wd), SC c c' → ∀ (s : Shared) (H : Hp) (C : Addr) (cl : List (Str × Addr)) (fp : List Addr), PDTs c' (X.blk s H scope (compEnvC scope cl C X.env) fp) ifs tt)
    (he : ∀ (c' : Wd), SC c c' → ∀ (s : Shared) (H : Hp) (C : Addr) (cl : List (Str × Addr)) (fp : List Addr), PD c' (X.blk s H scope (compEnvC scope cl C X.env) fp) elt te) (hsub : ∀ i ∈ us, i ∈ own.map (·.2) := by decide) (hs : ∀ x, foldedSetIterable iter X.env x = pure x := by intro _; rfl) :
    PD c X (.ListComp elt [⟨tg, iter, ifs, 0⟩] scope pos) (dLc ti g tt te (own.map (·.2))) := PE_imp (pe_lc hc hN hi ok (fun s H C cl fp => ⟨fun pins sh σ H' v u Q I r ⟨c', e, q⟩ => (hg c' e s H C cl fp).run pins sh σ H' v u Q I r q⟩) (fun s H C cl fp => ⟨fun pins sh σ H' Q I ⟨c', e, q⟩ => (ht c' e s H C cl fp).run pins sh σ H' Q I q⟩) (fun s H C cl fp => ⟨fun pins sh σ H' Q I ⟨c', e, q⟩ => (he c' e s H C cl fp).run pins sh σ H' Q I q⟩) hs) fun σ H Q h => comp_imp hsub h
theorem pds_setLc {i : Nat} {y : Str} {py spos : Pos} {elt tg iter : Expr} {ifs : List Expr} {scope : Scope} {own : List (Str × Nat)} {us : List Nat} {tt : DT} (hc : X.calm = true) (hN : X.N.Nodup)
    (hi : PDI c X tg iter ti) (ok : BlkOk X.N X.env.scope scope own)
    (hg : ∀ (c' : Wd), SC c c' → ∀ (s : Shared) (H : Hp) (C : Addr) (cl : List (Str × Addr)) (fp : List Addr), PDG c' (X.blk s H scope (compEnvC scope cl C X.env) fp) us tg g) (ht : ∀ (c' : Wd), SC c c' → ∀ (s : Shared) (H : Hp) (C : Addr) (cl : List (Str × Addr)) (fp : List Addr), PDTs c' (X.blk s H scope (compEnvC scope cl C X.env) fp) ifs tt)
    (he : ∀ (c' : Wd), SC c c' → ∀ (s : Shared) (H : Hp) (C : Addr) (cl : List (Str × Addr)) (fp : List Addr), PD c' (X.blk s H scope (compEnvC scope cl C X.env) fp) elt te)
    (hsw : swapsWith (.ListComp elt [⟨tg, iter, ifs, 0⟩] scope pos) (some (.Name y py)) spos.line X.env = pure true) (hy : X.N[i]? = some y := by rfl) (hyl : X.env.scope.names.lookup y = some .local := by rfl) (hsub : ∀ i ∈ us, i ∈ own.map (·.2) := by decide) (hs : ∀ x, foldedSetIterable iter X.env x = pure x := by intro _; rfl) :
    PDS c X (.Assign [.Name y py] (.ListComp elt [⟨tg, iter, ifs, 0⟩] scope pos) spos) (dAsg (dLc ti g tt te (own.map (·.2))) (gNm i)) := PS_imp (ps_setLc hc hN hy hyl hsw hi ok (fun s H C cl fp => ⟨fun pins sh σ H' v u Q I r ⟨c', e, q⟩ => (hg c' e s H C cl fp).run pins sh σ H' v u Q I r q⟩) (fun s H C cl fp => ⟨fun pins sh σ H' Q I ⟨c', e, q⟩ => (ht c' e s H C cl fp).run pins sh σ H' Q I q⟩) (fun s H C cl fp => ⟨fun pins sh σ H' Q I ⟨c', e, q⟩ => (he c' e s H C cl fp).run pins sh σ H' Q I q⟩) hs) fun D σ H ⟨ρ, w, D', hH, a, h, k⟩ =>
  comp_imp hsub ⟨ρ, w, _, hH, a, h, fun d w1 v q b r => k.nx _ w1 _ q b ((a.next b).set r)⟩
/-- a comprehension whose element is a function of the item -/
theorem compi_map {g : DG} {te : DE} {ρ : DEnv} {f : D → D} {M : Mu} : ∀ (xs acc : List D) (Q : DK), (∀ x ∈ xs, ∀ Q : DK, Q (f x) M → g x ρ M fun ρ1 M1 => te ρ1 M1 Q) → acc.length + xs.length ≤ 100000 → Q (.lst 0 (acc ++ xs.map f)) M → compi g dYes te ρ xs acc M Q
  | [], acc, Q, h, hl, q => by simpa [compi] using q
  | x :: xs, acc, Q, h, hl, q => by
    rw [compi]
    show g x ρ M fun ρ1 M1 => te ρ1 M1 fun d M3 => acc.length < 100000 ∧ compi g dYes te ρ xs (acc ++ [d]) M3 Q
    refine h x List.mem_cons_self _ ⟨by simp at hl; omega, compi_map xs (acc ++ [f x]) Q (fun y hy => h y (List.mem_cons_of_mem _ hy)) (by simp at hl ⊢; omega) ?_⟩
    simpa using q
end
end DL
/-! The data layer, part f: defs, calls, built-ins. -/
namespace DL
open PySem L2

/-! ### what a def promises, over data -/
/-- what is wanted of an exception: its class by name, its fields (the last one set first) -/
abbrev DXK := Str → List (Str × D) → Mu → Prop
abbrev DSp := List D → Mu → DK → DXK → Prop
abbrev DX0 : DXK := fun _ _ _ => False
def WvX (K : PySem.W.Frag) (w : Wd) (E' : DXK) (E : XK) : Prop := ∀ n fs w' dd vs, E' n fs w'.M → Bh K w w' → Fr w' dd → w'.H dd = some (.xd vs) → RpF K w' fs vs → E (.ref (w.cl n)) (some dd) w'.H
def upX (K : PySem.W.Frag) (cl : Str → Addr) (tb : List (Addr × Str)) (s : DSp) : Sp := fun vs H Q E => ∃ w ds Q' E', w.H = H ∧ Cc cl tb w ∧ Ok K w ∧ RpL K w ds vs ∧ s ds w.M Q' E' ∧ Wv K w Q' Q ∧ WvX K w E' E
/-- an exception that leaves a def entered at c -/
def XKof (K : PySem.W.Frag) (c : Wd) (E : DXK) : XK := fun cls d H' => ∃ n fs w' dd vs, cls = .ref (c.cl n) ∧ d = some dd ∧ w'.H = H' ∧ Bh K c w' ∧ Fr w' dd ∧ H' dd = some (.xd vs) ∧ RpF K w' fs vs ∧ E n fs w'.M
/-- the context takes such exceptions -/
def Tk (c : Wd) (X : Cx) (E : DXK) : Prop := L2N.Takes X (fun cls d _ H => XKof X.K c E cls d H)
theorem tk0 {c : Wd} {X : Cx} : Tk c X DX0 := fun _ _ ⟨_, _, _, _, _, _, _, _, _, _, _, _, _, _, _, _, _, _, _, _, _, _, _, _, _, _, _, _, z⟩ => z.elim
@[simp] def startD (N : List Str) (ds : List D) : DEnv := ds.map some ++ List.replicate (N.length - ds.length) none
theorem RE.start {K : PySem.W.Frag} {w : Wd} {N : List Str} : ∀ {ds : List D} {vs : List V}, RpL K w ds vs → RE K w (startD N ds) (start N vs) := fun {ds vs} r => by
  have hl := r.length
  refine ⟨by simp [startD, L2.start, hl], fun i d e => ?_⟩
  unfold startD at e
  by_cases hi : i < ds.length
  · rw [List.getElem?_append_left (by simpa using hi), List.getElem?_map] at e
    cases ed : ds[i]? with
    | none => rw [ed] at e; cases e
    | some d' =>
      rw [ed] at e
      obtain rfl : d' = d := by simpa using e
      obtain ⟨v, h1, h2⟩ := r.at ed
      refine ⟨v, ?_, h2⟩
      unfold L2.start
      rw [List.getElem?_append_left (by simp; omega), List.getElem?_map, h1]; rfl
  · rw [List.getElem?_append_right (by simpa using hi), List.getElem?_replicate] at e
    split at e <;> cases e
section
variable {P : Program} {w : World} {K : PySem.W.Frag} {mg : Str → Option Value} {base : Heap} {x qual : Str} {st : Stmt} {dvs : List V} {kws : List (Str × V)} {f : Addr} {fd : FuncData} {cl : Str → Addr} {tb : List (Addr × Str)}
theorem tk_of {N : List Str} {sc : Scope} {cdv : Value} {A : Around} {outer : List Env} {sh : Shared} {H : Hp} {E : XK} {E' : DXK} {c : Wd} (h : WvX K c E' E) : Tk c (cxOf (L2N.CX P w) P w K mg base N qual sc f cdv A outer sh H E) E' := by
  refine L2N.Takes.imp (L2N.takes_of (E := E) rfl rfl rfl rfl) fun cls d σ H q => ?_
  obtain ⟨n, fs, w', dd, vs, rfl, rfl, rfl, b, fr, hx, r, e⟩ := q
  exact h n fs w' dd vs e b fr hx r
/-- a def keeps its promise -/
theorem fnX {N ps : List Str} {k : Nat} {s : DSp} {t : DXK → DS} (F : FunD K x qual (defArgs st) (defBody st) (defScope st) dvs kws f fd) (S : FnScope N ps (defScope st))
    (hb : ∀ (cdv : Value) (A : Around) (outer : List Env) (sh : Shared) (H : Hp) (E : XK) (c : Wd) (E' : DXK), Cc cl tb c → Room k (A.deeper (PyProof.Rows.envOfC qual (defScope st) sh.heap.objs.size f cdv)) → Tk c (cxOf (L2N.CX P w) P w K mg base N qual (defScope st) f cdv A outer sh H E) E' →
      PDSs c (cxOf (L2N.CX P w) P w K mg base N qual (defScope st) f cdv A outer sh H E) (defBody st) (t E'))
    (hs : ∀ ds M Q E', s ds M Q E' → ds.length = ps.length ∧ t E' { nx := fun _ M' => Q .non M', rt := Q } (startD N ds) M) : FnOk P w K mg base (L2N.CX P w) (k + 1) f fd ps (upX K cl tb s) := by
  refine F.ok S (fun vs H Q E h => ?_) (fun cdv A outer sh H vs Q E hr h => ?_)
  · obtain ⟨w, ds, Q', E', hH, hcc, ok, r, h, k, kx⟩ := h
    rw [r.length]; exact (hs ds _ Q' E' h).1
  · obtain ⟨w, ds, Q', E', hH, hcc, ok, r, h, k, kx⟩ := h
    refine ⟨liftS K w (t E'), hb cdv A outer sh H E w E' hcc hr (tk_of kx), startD N ds, w, _, hH, ⟨Kp.refl w, RE.start r, ok, rfl, rfl⟩, (hs ds _ Q' E' h).2, ?_⟩
    exact { nx := fun ρ' w' σ' q b a => k .non w' .non q b rfl, rt := k, bk := fun _ _ _ q => q.elim, ct := fun _ _ _ q => q.elim }
/-- a def of the text that keeps its promise, by its name -/
structure Fnd (P : Program) (w : World) (K : PySem.W.Frag) (mg : Str → Option Value) (base : Heap) (cl : Str → Addr) (tb : List (Addr × Str)) (k : Nat) (x : Str) (st : Stmt) (ps : List Str) (s : DSp) : Prop where
  ex : ∃ f fd, FunD K x x (defArgs st) (defBody st) (defScope st) [] [] f fd ∧ FnOk P w K mg base (L2N.CX P w) k f fd ps (upX K cl tb s) ∧ mg x = some (.ref f) ∧ Binds K fd ps []
theorem Fnd.mono {j k : Nat} {ps : List Str} {s : DSp} (F : Fnd P w K mg base cl tb j x st ps s) (h : j ≤ k) : Fnd P w K mg base cl tb k x st ps s := by
  obtain ⟨f, fd, a, b, c⟩ := F.ex
  exact ⟨f, fd, a, b.mono h, c⟩
end
section
variable {X : Cx} {c : Wd} {e o : Expr} {es : List Expr} {te ta tb : DE} {tl tk : DA} {pos p apos : Pos} {x : Str} {st : Stmt} {ps : List Str} {s : DSp} {k : Nat} {E : DXK}
@[simp] def dCall (s : DSp) (E : DXK) (t : DA) : DE := fun ρ M Q => t ρ M fun ds M1 => s ds M1 Q E
theorem Tk.pass (h : Tk c X E) : Passes (L2N.CX X.prog X.w) X (XKof X.K c E) := L2N.passes_call h fun _ _ _ _ h => h
theorem wvX_of {K : PySem.W.Frag} {w w1 : Wd} {ρ : DEnv} {σ : St} (a : At K c w ρ σ) (b : Bh K w w1) : WvX K w1 E (XKof K c E) := fun n fs w' dd vs e b' fr hx r =>
  ⟨n, fs, w', dd, vs, by rw [b.kp.cl, a.kp.cl], rfl, rfl, (a.bh.trans b).trans b', fr, hx, r, e⟩
theorem call_imp {K : PySem.W.Frag} {cl : Str → Addr} {tb : List (Addr × Str)} (hcc : Cc cl tb c) {σ : St} {H : Hp} {Q : VK} (h : lift K c (dCall s E tl) σ H Q) : tCall (upX K cl tb s) [] (XKof K c E) (liftA K c tl) σ H Q := by
  obtain ⟨ρ, w, Q', hH, a, h, k⟩ := h
  refine ⟨ρ, w, _, hH, a, h, fun ds w1 vs q b r => ?_⟩
  show upX K cl tb s (vs ++ []) w1.H Q (XKof K c E)
  rw [List.append_nil]
  exact ⟨w1, ds, Q', E, rfl, hcc.sc (a.kp.trans b.kp).sc, b.ok, r, q, k.back b, wvX_of a b⟩
theorem pd_call {cl : Str → Addr} {tb : List (Addr × Str)} (hcc : Cc cl tb c) (G : Fnd X.prog X.w X.K X.mg X.base cl tb k x st ps s) (hr : Room k X.A) (tk : Tk c X E) (ha : PDA c X (e :: es) tl) (hg : Gl X x := by rfl) (hdb : (x == ("__debug__" : Str)) = false := by decide)
    (he : starEach (e :: es) X.env = (false, eval e X.env) :: starEach es X.env := by rfl) (hpl : (backTo pos (starEach es X.env)).any (·.1) = false := by rfl) : PD c X (.Call (.Name x p) (e :: es) [] pos) (dCall s E tl) := by
  obtain ⟨f, fd, F, G, hm, hb⟩ := G.ex
  exact PE_imp (pe_call G hr hg hm F.kp hb .nil tk.pass ha (hdb := hdb) (he := he) (hpl := hpl)) fun σ H Q h => call_imp hcc h
theorem pd_call0 {cl : Str → Addr} {tb : List (Addr × Str)} (hcc : Cc cl tb c) (G : Fnd X.prog X.w X.K X.mg X.base cl tb k x st ps s) (hr : Room k X.A) (tk : Tk c X E) (hg : Gl X x := by rfl) (hdb : (x == ("__debug__" : Str)) = false := by decide) : PD c X (.Call (.Name x p) [] [] pos) (dCall s E dNil) := by
  obtain ⟨f, fd, F, G, hm, hb⟩ := G.ex
  refine PE_imp (pe_call0 G hr hg hm F.kp hb .nil tk.pass (hdb := hdb)) fun σ H Q ⟨ρ, w, Q', hH, a, h, k⟩ => ?_
  exact ⟨w, [], Q', E, hH, hcc.sc a.kp.sc, a.ok, rfl, h, k, wvX_of a (Bh.refl a.ok)⟩
/-! ### keywords -/
abbrev PDK (c : Wd) (X : Cx) (kws : List Keyword) (t : DA) : Prop := PK X kws (liftA X.K c t)
theorem PK_imp {kws : List Keyword} {t t' : TA} (h : PK X kws t) (i : ∀ σ H Q, t' σ H Q → t σ H Q) : PK X kws t' := ⟨fun pos pins s σ H Q I q => h.run pos pins s σ H Q I (i σ H Q q)⟩
theorem pdk_nil : PDK c X [] dNil := PK_imp pk_nil fun σ H Q ⟨ρ, w, Q', hH, a, h, k⟩ => hH ▸ k [] w [] h (Bh.refl a.ok) rfl
theorem pdk_cons {kws : List Keyword} {nm : Option Str} {kpos : Pos} (ha : PD c X e te) (hr : PDK c X kws tl) : PDK c X (⟨nm, e, kpos⟩ :: kws) (dCons te tl) := PK_imp (pk_cons ha hr) fun σ H Q ⟨ρ, w, Q', hH, a, h, k⟩ =>
  ⟨ρ, w, _, hH, a, h, fun d w1 v q b1 r => ⟨ρ, w1, _, rfl, a.next b1, q, fun ds w2 vs q2 b2 r2 => k (d :: ds) w2 (v :: vs) q2 (b1.trans b2) ⟨v, vs, rfl, r.mono b2.kp, r2⟩⟩⟩
/-- all arguments by keywords; g puts them in the parameters' order -/
@[simp] def dCallK0 (s : DSp) (E : DXK) (m : Nat) (g : List D → List D) (tk : DA) : DE := fun ρ M Q => tk ρ M fun ds M1 => ds.length = m ∧ s (g ds) M1 Q E
theorem pd_callK0 {cl : Str → Addr} {tb : List (Addr × Str)} (hcc : Cc cl tb c) {kws : List Keyword} {ks : List Str} {m : Nat} (g : {α : Type} → List α → List α) (hrel : ∀ {α β : Type} (R : α → β → Prop) (a : List α) (b : List β), a.length = m → Paired R a b → Paired R (g a) (g b))
    (hgL : ∀ (K : PySem.W.Frag) (w : Wd) (ds : List D) (vs : List V), ds.length = m → RpL K w ds vs → RpL K w (g ds) (g vs))
    (hbind : ∀ (kV doc pm : Value) (an : Option Addr) (cdv ct : Value) (ws : List Value), ws.length = m → bindArgs (PySem.W.fnOf x x (defArgs st) (defBody st) (defScope st) .none kV doc pm an cdv ct) ⟨[], ks.zip ws⟩ = pure (ps.zip (g ws)))
    (G : Fnd X.prog X.w X.K X.mg X.base cl tb k x st ps s) (hr : Room k X.A) (htk : Tk c X E) (hkw : PDK c X kws tk) (hg : Gl X x := by rfl) (hall : (backToKw pos (keywordEach kws X.env)).all (·.1.isSome) = true := by rfl) (hks : (backToKw pos (keywordEach kws X.env)).filterMap (·.1) = ks := by rfl)
    (hdb : (x == ("__debug__" : Str)) = false := by decide) (hpl : ((backTo pos (starEach [] X.env)).any (·.1) || (backToKw pos (keywordEach kws X.env)).any (·.1.isNone)) = false := by rfl) :
    PD c X (.Call (.Name x p) [] kws pos) (dCallK0 s E m g tk) := by
  obtain ⟨f, fd, F, G, hm, hb⟩ := G.ex
  refine ⟨fun pins sh σ H Q I ⟨ρ, w, Q', hH, a, h, k⟩ => ?_⟩
  refine wpAny_Call_Name_kw (ld_glob I hg hm ?_ hdb)
  have h1 : liftA X.K c tk σ H (fun vs H1 => ∃ (w1 : Wd) (ds : List D), w1.H = H1 ∧ Bh X.K w w1 ∧ (ds.length = m ∧ s (g ds) w1.M Q' E) ∧ RpL X.K w1 ds vs) := ⟨ρ, w, _, hH, a, h, fun ds w1 vs q b r => ⟨w1, ds, rfl, b, q, r⟩⟩
  refine PySem.W.callWith_KW0 (h₀ := X.base) I.ok.mod.kin F.kp hall (thn (hkw.run pos pins sh σ H _ I h1) fun ws s2 ⟨zs, H2, I2, rz, w1, ds, hw, b, q, r⟩ => ⟨I2.kIn, ?_⟩) hpl
  rw [hks]
  subst hw
  have hl : zs.length = m := by rw [r.length]; exact q.1
  have r2 : Vals (g zs) (g ws) := hrel RelV zs ws hl rz
  have hsp : upX X.K cl tb s (g zs) w1.H Q (XKof X.K c E) := ⟨w1, g ds, Q', E, rfl, hcc.sc (a.kp.trans b.kp).sc, b.ok, hgL X.K w1 ds zs q.1 r, q.2, k.back b, wvX_of a b⟩
  obtain ⟨oc, od, dV, kV, doc, pm, an, cdv, ct, osl, rfl, lk, hcd, hD, hK⟩ := F.ex
  obtain rfl : dV = .none := by
    rcases hD with ⟨_, z⟩ | ⟨z, _⟩
    · exact z
    · exact absurd rfl z
  refine wpAny_call (codeAny_mono (G.run X.A X.stack s2 _ ⟨[], ks.zip ws⟩ (g ws) (g zs) Q (XKof X.K c E) hr I2.env0 (.of_eq (hbind kV doc pm an cdv ct ws (by rw [← rz.length]; exact hl))) r2 hsp) fun r s' hq => ?_)
  cases r with
  | error e => exact htk.pass pins σ _ s2 e s' I2 hq
  | ok fl =>
    cases fl with
    | ret u => exact I2.after hq
    | next => exact False.elim hq
    | brk => exact False.elim hq
    | cont => exact False.elim hq
end
end DL
/-! The data layer, part g: own exceptions: made, raised. -/
namespace DL
open PySem L2
/-! ### what an exception's own __init__ does -/
/-- the fields are set, the exception has its dict at d -/
def xfin (H : Hp) (a C d : Addr) (fs : List (Str × V)) : Hp := upd (upd H d (exd d fs)) a (exo a C (some d))
def spIni (C : Addr) (m : Nat) (mkf : List V → List (Str × V)) : Sp := fun vs H Q _ => ∃ a args, vs = .ref a :: args ∧ args.length = m ∧ H a = some (exo a C none) ∧ ∀ d, H d = none → d ≠ a → Q .non (xfin H a C d (mkf args))
section
variable {K : PySem.W.Frag} {C a d : Addr} {f : Str} {te : TE} {y : V} {D : Ends} {σ : St} {H : Hp} {fs : List (Str × V)}
theorem ost_first (T : OexC K C) (hno : PySem.W.findIn K (.ref C) f = some none) (h0 : σ[0]? = some (some (.ref a))) (ha : H a = some (exo a C none)) (hy : ∀ Q : VK, Q y H → te σ H Q)
    (k : ∀ d, H d = none → d ≠ a → D.nx σ (xfin H a C d [(f, y)])) : tOst K f (tVar 0) te D σ H :=
  hy _ ⟨.ref a, h0, a, C, rfl, T, hno, .inl ⟨ha, k⟩⟩
theorem ost_next (T : OexC K C) (hno : PySem.W.findIn K (.ref C) f = some none) (h0 : σ[0]? = some (some (.ref a))) (hd : d ≠ a) (hl : fs.length ≤ 900) (hy : ∀ Q : VK, Q y (xfin H a C d fs) → te σ (xfin H a C d fs) Q)
    (k : D.nx σ (xfin H a C d ((f, y) :: fs))) : tOst K f (tVar 0) te D σ (xfin H a C d fs) := by
  refine hy _ ⟨.ref a, h0, a, C, rfl, T, hno, .inr ⟨d, fs, upd_same, ?_, hl, ?_⟩⟩
  · unfold xfin; rw [upd_ne hd, upd_same]
  · have e : upd (xfin H a C d fs) d (exd d ((f, y) :: fs)) = xfin H a C d ((f, y) :: fs) := by
      funext b
      unfold xfin
      by_cases hb : b = d
      · subst hb; rw [upd_same, upd_ne hd, upd_same]
      · rw [upd_ne hb]
        by_cases hb2 : b = a
        · subst hb2; rw [upd_same, upd_same]
        · rw [upd_ne hb2, upd_ne hb2, upd_ne hb, upd_ne hb]
    rw [e]; exact k
end
/-! ### C(e, ..), the context of the new exception being None -/
section
variable {X : Cx} {e : Expr} {es : List Expr} {ta : TA} {p pos : Pos}
theorem pmkN {CX : CXT} {x : Str} {C fI : Addr} {k : Nat} {fd : FuncData} {ps : List Str} {sp : Sp} {ds : List Value} {dvs : List V} (T : OexC X.K C) (iC : PySem.W.findIn X.K (.ref C) "__init__" = some (some (.ref fI))) (tI : PySem.W.typeIn X.K (.ref fI) = some (.type "function"))
    (F1 : FnOk X.prog X.w X.K X.mg X.base CX k fI fd ps sp) (hr : Room (k + 1) X.A) (hb : Binds X.K fd ps ds) (hd : Vals dvs ds) (hx : Passes CX X (fun _ _ _ => False)) (hg : Gl X x) (hm : X.mg x = some (.ref C)) (ha : PA X (e :: es) ta)
    (hdb : (x == ("__debug__" : Str)) = false := by decide) (he : starEach (e :: es) X.env = (false, eval e X.env) :: starEach es X.env := by rfl) (hpl : (backTo pos (starEach es X.env)).any (·.1) = false := by rfl) :
    L2N.PMk X (.Call (.Name x p) (e :: es) [] pos) (tMkO C sp dvs ta) := by
  intro pins s σ H Q I h
  obtain ⟨nm, q, N, bs, bm, sn, sub, ab, col, dd, k0, k1, k2, k3, k5, hC, hbm⟩ := T.cls
  refine wpAny_Call_Name_kw (ld_glob I hg hm ?_ hdb)
  refine PySem.W.callWith_K (h₀ := X.base) I.ok.mod.kin T.kC (thn (ha.run pos pins s σ H _ I h) fun us s1 ⟨vs, H1, I1, r1, hz, q1⟩ => ⟨I1.kIn, ?_⟩) he hpl
  show wpAny _ _ (call (.ref C) us) _ _ _
  obtain ⟨hp, g, dr, tk, os⟩ := s1
  have hsz : hp.objs.size ≤ hp.objs.size + 1 := Nat.le_succ _
  have hq := q1 (hp.objs.size + 1) (I1.hok.fresh hsz)
  have kk : ∀ b o, hp.get? b = some o → ((hp.push (PySem.W.kdv_tup us)).push (PySem.HandSPX.excO C hp.objs.size)).get? b = some o := fun b o e => Heap.get?_push_of_some _ (Heap.get?_push_of_some _ e)
  have hget : ((hp.push (PySem.W.kdv_tup us)).push (PySem.HandSPX.excO C hp.objs.size)).get? (hp.objs.size + 1) = some (PySem.HandSPX.excO C hp.objs.size) := by heap_get
  have I2 : Inv X pins σ (upd H1 (hp.objs.size + 1) (exo (hp.objs.size + 1) C none)) ⟨(hp.push (PySem.W.kdv_tup us)).push (PySem.HandSPX.excO C hp.objs.size), g, dr, tk, os⟩ :=
    I1.laid (t' := tk) (a := hp.objs.size + 1) (o := exo (hp.objs.size + 1) C none) (h' := (hp.push (PySem.W.kdv_tup us)).push (PySem.HandSPX.excO C hp.objs.size)) kk hsz (exo_ok hget)
  have r2 : Vals (V.ref (hp.objs.size + 1) :: (vs ++ dvs)) (Value.ref (hp.objs.size + 1) :: (us ++ ds)) := .cons rfl (r1.append hd)
  have hl : (Value.ref (hp.objs.size + 1) :: us ++ ds).length = ps.length := by
    have e := r2.length
    rw [F1.len _ _ _ _ hq] at e
    exact e.symm
  have hus : us.length ≤ sizeLine := by
    rw [← Paired.length r1, sizeLine_eq]
    omega
  refine wpAny_call (PySem.HandSPX.call_own F.excBase_ValueError (fun Y => PySem.HandSPX.refsVE_contains Y bm hbm) (I1.kIn _ _ hC) (PySem.W.looks_findIn I1.kIn iC) (fun self => PySem.W.bind_fn I1.kIn self tI) hus
    (codeAny_mono (F1.run _ X.stack _ _ ⟨Value.ref (hp.objs.size + 1) :: us, []⟩ (Value.ref (hp.objs.size + 1) :: (us ++ ds)) _ _ (fun _ _ _ => False) (hr.make C us []) (I2.env0.make C us []) (hb _ (Value.ref (hp.objs.size + 1) :: us) I2.kIn hl) r2 hq) fun r s' hq' => ?_))
  cases r with
  | error er => exact hx pins σ _ _ er s' I2 hq'
  | ok fl =>
    cases fl with
    | ret u =>
      obtain ⟨v, H2, os2, bare2, un2, hok2, rv, ev, d, fs, ea, ed, hd1, q2⟩ := hq'
      subst ev
      obtain ⟨h2, g2, d2, t2, os'⟩ := s'
      refine ⟨rv, ?_⟩
      obtain ⟨t0, G, J, kG, ge, hoe, na⟩ := mk_end0 (d2 := d2) (t2 := t2) I1 hsz kk un2 hok2 os2 bare2 ea ed hd1
      exact ⟨_, _, _, ⟨G, g2, d2, t2, os'⟩, _, .ref C, some d, rfl, J, kG, ge, hoe, ⟨rfl, rfl, fun vs e => by cases e; rfl⟩, rfl, rfl, na, rfl, bare2, raises_own T.exC T.tyC, q2⟩
    | next => exact False.elim hq'
    | brk => exact False.elim hq'
    | cont => exact False.elim hq'
end
/-! ### over data -/
/-- the fields, the last one set first: by a text, or by the i-th argument -/
def mkF {α : Type} (str : Str → α) (z : α) : List (Str × (Sum Str Nat)) → List α → List (Str × α)
  | [], _ => []
  | (f, .inl t) :: r, xs => (f, str t) :: mkF str z r xs
  | (f, .inr i) :: r, xs => (f, xs.getD i z) :: mkF str z r xs
theorem mkF_rp {K : PySem.W.Frag} {w : Wd} {ds : List D} {vs : List V} (r : RpL K w ds vs) : ∀ (fl : List (Str × (Sum Str Nat))), RpF K w (mkF D.str .non fl ds) (mkF V.str .non fl vs)
  | [] => rfl
  | (f, .inl t) :: l => ⟨_, _, rfl, rfl, mkF_rp r l⟩
  | (f, .inr i) :: l => by
    refine ⟨_, _, rfl, ?_, mkF_rp r l⟩
    cases e : ds[i]? with
    | none =>
      have e2 : vs[i]? = none := by
        have := r.length
        rw [List.getElem?_eq_none_iff] at e ⊢; omega
      simp only [List.getD, e, e2]; rfl
    | some d =>
      obtain ⟨v, e2, h⟩ := r.at e
      simp only [List.getD, e, e2]; exact h
/-- an own class of exceptions whose __init__ sets these fields -/
structure ExcD (P : Program) (w : World) (K : PySem.W.Frag) (mg : Str → Option Value) (base : Heap) (cl : Str → Addr) (n : Str) (m : Nat) (fl : List (Str × (Sum Str Nat))) : Prop where
  oex : OexC K (cl n)
  ini : ∃ fI fd ps, PySem.W.findIn K (.ref (cl n)) "__init__" = some (some (.ref fI)) ∧ PySem.W.typeIn K (.ref fI) = some (.type "function") ∧ FnOk P w K mg base CX0 1 fI fd ps (spIni (cl n) m (mkF V.str .non fl)) ∧ Binds K fd ps []
  glo : mg n = some (.ref (cl n))
section
variable {X : Cx} {c : Wd} {e : Expr} {es : List Expr} {tl : DA} {p pos : Pos} {n : Str} {m : Nat} {fl : List (Str × (Sum Str Nat))} {E : DXK}
@[simp] def dRaise (E : DXK) (n : Str) (m : Nat) (fl : List (Str × (Sum Str Nat))) (tl : DA) : DS := fun _ ρ M => tl ρ M fun ds M1 => (ds.length = m ∧ m ≤ 1000) ∧ E n (mkF D.str .non fl ds) M1
theorem pds_raise {cl : Str → Addr} (hcl : c.cl = cl) (hc : X.calm = true) (G : ExcD X.prog X.w X.K X.mg X.base cl n m fl) (hr : Room 2 X.A) (tk : Tk c X E) (ha : PDA c X (e :: es) tl) (hg : Gl X n := by rfl) (hdb : (n == ("__debug__" : Str)) = false := by decide)
    (he : starEach (e :: es) X.env = (false, eval e X.env) :: starEach es X.env := by rfl) (hpl : (backTo pos (starEach es X.env)).any (·.1) = false := by rfl) {rpos : Pos} : PDS c X (.Raise (some (.Call (.Name n p) (e :: es) [] pos)) none rpos) (dRaise E n m fl tl) := by
  obtain ⟨fI, fd, ps, h1, h2, h3, h4⟩ := G.ini
  subst hcl
  refine PS_imp (L2N.ps_raise hc tk (pmkN (dvs := []) G.oex h1 h2 h3 hr h4 .nil (fun _ _ _ _ _ _ _ z => z.elim) hg G.glo ha (hdb := hdb) (he := he) (hpl := hpl))) fun D0 σ H ⟨ρ, w, D', hH, a, h, k⟩ => ?_
  refine ⟨ρ, w, _, hH, a, h, fun ds w1 vs q b r => ⟨by rw [r.length, q.1.1]; exact q.1.2, fun ae hn => ?_⟩⟩
  refine ⟨ae, vs, by rw [List.append_nil], by rw [r.length]; exact q.1.1, upd_same, fun d hdn hda => ⟨rfl, d, mkF V.str .non fl vs, upd_same, ?_, ?_, ?_⟩⟩
  · unfold xfin; rw [upd_ne hda, upd_same]
  · rw [← hdn, upd_ne hda]
  · have hd1 : w1.H d = none := by rw [← hdn, upd_ne hda]
    have e1 : upd (del (xfin (upd w1.H ae (exo ae (c.cl n) none)) ae (c.cl n) d (mkF V.str .non fl vs)) ae) d (.xd (mkF V.str .non fl vs)) = upd w1.H d (.xd (mkF V.str .non fl vs)) := by
      funext x
      by_cases hx : x = d
      · subst hx; rw [upd_same, upd_same]
      · rw [upd_ne hx, upd_ne hx]
        by_cases hx2 : x = ae
        · subst hx2; rw [del_same, hn]
        · rw [del_ne hx2]; unfold xfin; rw [upd_ne hx2, upd_ne hx, upd_ne hx2]
    rw [e1]
    have b2 : Bh X.K w1 (w1.at (upd w1.H d (.xd (mkF V.str .non fl vs)))) := Bh.new b.ok hd1
    exact ⟨n, mkF D.str .non fl ds, w1.at (upd w1.H d (.xd (mkF V.str .non fl vs))), d, mkF V.str .non fl vs, rfl, rfl, rfl, (a.bh.trans b).trans b2, (b.ok.fresh hd1).at, upd_same, RpF.mono b2.kp (mkF_rp r fl), q.2⟩
end
end DL
/-! The data layer, part h: try with one clause of two classes, what its suite reads. -/
namespace DL
open PySem L2
theorem flying_push {B h : Heap} {l : List Env} {a : Addr} {Z : Obj → Prop} (f : HandSPX.FlyingZ B l a Z h) (o : Obj) : HandSPX.FlyingZ B l a Z (h.push o) := by
  obtain ⟨k1, k2, k3, oe, vs, T, oT, ts, he, hz, hd, h1, hn, hne, hT, hdT, h3⟩ := f
  exact ⟨fun b u e => Heap.get?_push_of_some _ (k1 b u e), k2, k3.of_keeps fun b u e _ => ⟨u, Heap.get?_push_of_some _ e, rfl⟩, oe, vs, T, oT, ts, Heap.get?_push_of_some _ he, hz, hd, h1, hn, hne, Heap.get?_push_of_some _ hT, hdT, h3⟩
/-- what the clause wishes of an exception: it is caught -/
def wTwo (K : PySem.W.Frag) (c1 c2 : Value) (i : Nat) (ts : Addr → Value → Option Addr → TS) (D : Ends) : WX := fun cls d σ H => PySem.W.exmAny K cls [c1, c2] = some true ∧
  ∀ a, H a = none → ts a cls d { nx := fun σ' H' => D.nx (σ'.set i none) H', rt := D.rt, bk := fun σ' H' => D.bk (σ'.set i none) H', ct := fun σ' H' => D.ct (σ'.set i none) H' } (σ.set i (some (.ref a))) H
section
variable {X : Cx} {x1 x2 n : Str} {c1 c2 : Value} {i kk : Nat} {body suite : List Stmt} {b₀ : Stmt} {p1 p2 tpos pos pos' : Pos} {tb : WX → TS} {ts : Addr → Value → Option Addr → TS}
theorem ps_try_two (hs : X.stack = X.env :: X.outer) (hf : X.env.frame = some X.env.locals) (hN : X.N.Nodup) (hi : X.N[i]? = some n) (hln : X.env.kindOf n = some .local) (h1 : Names X x1 c1) (h2 : Names X x2 c2)
    (hb : ∀ (W : WX) (pn : List (Addr × Obj)) (xe : Value → Shared → Prop), L2N.Takes (X.tr pn xe) W → PassesOwn (model X.prog X.w) X.A X.env xe → PSs (X.tr pn xe) body (tb W))
    (hsu : ∀ (a : Addr) (oe : Obj) (cls : Value) (d : Option Addr) (pn : List (Addr × Obj)), L2N.Zn cls d oe → (∃ vs, oe.data = .fields vs) → PSs (X.suite a ((a, oe) :: pn)) (b₀ :: suite) (ts a cls d)) :
    PS X (.Try body [.ExceptHandler (some (.Tuple [.Name x1 p1, .Name x2 p2] kk tpos)) (some n) (b₀ :: suite) pos'] [] [] pos) (fun D σ H => tb (wTwo X.K c1 c2 i ts D) D σ H) := by
  refine ⟨fun pins s σ H D I h => ?_⟩
  have ok := I.ok
  have hfr : X.A.frames = some (X.env :: X.outer) := by rw [ok.frames, hs]
  refine wpAny_Try_except (wpAny_mono ((hb (wTwo X.K c1 c2 i ts D) (X.pn ++ pins) (fun e s₁ => wpAny (model X.prog X.w) X.A (noteFrame e X.env) (fun _ s₂ => wpAny (model X.prog X.w) X.A (setFlight e none) (fun _ s₃ =>
    wpAny (model X.prog X.w) X.A (handleBy e X.env [.ExceptHandler (some (.Tuple [.Name x1 p1, .Name x2 p2] kk tpos)) (some n) (b₀ :: suite) pos']) (SP X pins D) X.xe s₃) X.xe s₂) X.xe s₁) (fun u s' xx => ?_) PassesOwn.looking).run [] s σ H D (I.toTry _) h) (fun f s1 hsp => ?_) (fun e s1 he => he))
  · obtain ⟨a, B, sI, pins', σ', H', cls, d, rfl, J', nb, up, sky, na, os, ag, hcl, hyes⟩ := xx
    have J : Inv X pins σ' H' sI := J'.ofTry ok
    have sky' : Sky B (X.env :: X.outer) a (L2N.Zn cls d) X.env.locals s'.heap := by rw [← hs]; exact sky
    show wpAny (model X.prog X.w) X.A (noteFrame (.ref a) X.env) _ _ _
    refine L2N.Sky.land L2N.Zn.steady hfr hf sky' fun h3 fl3 up3 => ?_
    have J3 : Inv X pins σ' H' { s' with heap := h3 } := J.landed nb fl3.1 (up.trans up3) os ag
    obtain ⟨oe3, vs3, he3, hz3, hd3⟩ := fl3.there
    have nfr : a ∉ frs (X.env :: X.outer) := fun hm => by
      obtain ⟨_, o', e', hnf⟩ := fl3.2.2.1.mem hm
      rw [he3] at e'; cases e'
      exact hnf _ hd3
    have nL : a ≠ X.env.locals := fun z => nfr (List.mem_filterMap.mpr ⟨X.env, List.mem_cons_self, by rw [hf, z]⟩)
    have nF : a ∉ X.fs := fun hm => by
      obtain ⟨e, he, q⟩ := List.mem_filterMap.mp hm
      exact nfr (List.mem_filterMap.mpr ⟨e, List.mem_cons_of_mem _ he, q⟩)
    have S3 := J3.suite he3 hd3 na nL nF
    refine wpAny_handleBy_cons (codeAny_handlers_test ?_) (by intro q; cases q)
    have look : ∀ {x : Str} {c : Value} {p : Pos} {Q : Value → Shared → Prop} {E : Value → Shared → Prop}, Names X x c → Q c { s' with heap := h3 } → wpAny (model X.prog X.w) (X.A.mark (some (.ref a))) (eval (.Name x p) X.env) Q E { s' with heap := h3 } := fun {x c p Q E} hc q => by
      obtain ⟨hg, hdbg, hm | ⟨hm, hv, hnn⟩⟩ := hc
      · exact ld_glob (X := X.suite a ((a, oe3) :: (X.pn ++ pins))) S3 hg hm q hdbg
      · exact ld_blt (X := X.suite a ((a, oe3) :: (X.pn ++ pins))) S3 hg hm hv q hnn hdbg
    refine PyProof.Rows.Tuple_ (PyProof.Rows.spliced_more (look h1 (PyProof.Rows.spliced_more (look h2 (PyProof.Rows.spliced_none ?_)))))
    refine wpAny_newObj_type ?_
    have fl5 := flying_push fl3 { cls := .type "tuple", dict := none, data := .seq [c1, c2].toArray }
    have up5 : h3.UpToSlots (h3.push { cls := .type "tuple", dict := none, data := .seq [c1, c2].toArray }) := Heap.UpToSlots.of_keeps fun b o e => Heap.get?_push_of_some _ e
    have J5 : Inv X pins σ' H' { s' with heap := h3.push { cls := .type "tuple", dict := none, data := .seq [c1, c2].toArray } } := J.landed nb fl5.1 ((up.trans up3).trans up5) os ag
    have LT : PySem.W.Looks (model X.prog X.w) (h3.push { cls := .type "tuple", dict := none, data := .seq [c1, c2].toArray }) (typeOf (.ref a)) cls := fun A Q E s k q => wpAny_typeOf_ref (k _ _ (Heap.get?_push_of_some _ he3)) (by rw [hz3.1]; exact q)
    have LM := PySem.W.exm_tup2 (M := model X.prog X.w) (tp := h3.objs.size) (J5.kIn) LT (Heap.get?_push_size _ rfl) hcl
    refine LM.here ?_
    refine codeAny_handlers_suite_as ?_
    refine HandSPX.lands_againZ (s := { s' with heap := h3.push { cls := .type "tuple", dict := none, data := .seq [c1, c2].toArray } }) fl5 fun h4 fl4 up4 => ?_
    have J4 : Inv X pins σ' H' { s' with heap := h4 } := J.landed nb fl4.1 (((up.trans up3).trans up5).trans up4) os ag
    obtain ⟨oe4, vs4, he4, hz4, hd4⟩ := fl4.there
    have S4 := J4.suite he4 hd4 na nL nF
    refine store_ok (X := X.suite a ((a, oe4) :: (X.pn ++ pins))) (v := .ref a) S4 hN hi (.inl hln) rfl (fun s5 S5 => ?_) (.inr hln)
    refine wpAny_mono ((hsu a oe4 cls d (X.pn ++ pins) hz4 ⟨_, hd4⟩).run [] s5 _ H' _ S5 (hyes a na)) (fun f s6 hsp => ?_) (fun _ _ z => False.elim z)
    have end_ : ∀ {σ6 : St} {H6 : Hp} {Q : Shared → Prop}, Inv (X.suite a ((a, oe4) :: (X.pn ++ pins))) [] σ6 H6 s6 → (∀ s7, Inv X pins (σ6.set i none) H6 s7 → Q s7) →
        wpAny (model X.prog X.w) X.A (do bindName X.env n .none; unbindBehindTheSuite X.env n pos') (fun _ s7 => Q s7) X.xe s6 := fun {σ6 H6 Q} S6 hq => gone_ok (S6.unsuite ok) hN hi hln hq
    cases f with
    | next => obtain ⟨σ6, H6, S6, q6⟩ := hsp; exact end_ S6 fun s7 J7 => ⟨_, _, J7, q6⟩
    | brk => obtain ⟨σ6, H6, S6, q6⟩ := hsp; exact end_ S6 fun s7 J7 => ⟨_, _, J7, q6⟩
    | cont => obtain ⟨σ6, H6, S6, q6⟩ := hsp; exact end_ S6 fun s7 J7 => ⟨_, _, J7, q6⟩
    | ret u => obtain ⟨v6, σ6, H6, S6, r6, q6⟩ := hsp; exact end_ S6 fun s7 J7 => ⟨_, _, _, J7, r6, q6⟩
  · cases f with
    | next => obtain ⟨σ', H', J', q⟩ := hsp; exact wpAny_execs_nil ⟨σ', H', J'.ofTry ok, q⟩
    | brk => obtain ⟨σ', H', J', q⟩ := hsp; exact ⟨σ', H', J'.ofTry ok, q⟩
    | cont => obtain ⟨σ', H', J', q⟩ := hsp; exact ⟨σ', H', J'.ofTry ok, q⟩
    | ret u => obtain ⟨v, σ', H', J', r, q⟩ := hsp; exact ⟨v, σ', H', J'.ofTry ok, r, q⟩
end
end DL
/-! The data layer, part i: the handled exception over data; try. -/
namespace DL
open PySem L2
/-! ### no exception within -/
mutual
def noX : D → Bool
  | .exc _ _ => false
  | .lst _ xs => noXL xs
  | .tup xs => noXL xs
  | .dct kvs => noXK kvs
  | .obj _ fs => noXF fs
  | _ => true
def noXL : List D → Bool
  | [] => true
  | x :: xs => noX x && noXL xs
def noXK : List (D × D) → Bool
  | [] => true
  | (_, x) :: xs => noX x && noXK xs
def noXF : List (Str × D) → Bool
  | [] => true
  | (_, x) :: xs => noX x && noXF xs
end
def noXM : MO → Bool
  | .lst ds => noXL ds
  | .dK kvs => noXK (kvs.map fun p => (keyD p.1, p.2))
  | .dT kvs => noXK (kvs.map fun p => (tkeyD p.1, p.2))
  | .ins _ fs => noXF fs
  | _ => true
abbrev Wd.exs (w : Wd) (e : Option (Addr × Addr × Addr)) : Wd := { w with ex := e }
section
variable {K : PySem.W.Frag} {w : Wd} {e : Option (Addr × Addr × Addr)}
theorem Fr.exs {a : Addr} (h : Fr w a) : Fr (w.exs e) a := ⟨h.m, h.h, h.l⟩
theorem LsAt.exs {r : Nat} {a : Addr} {xs : List V} (h : LsAt w r a xs) : LsAt (w.exs e) r a xs := ⟨h.1, h.2.elim (fun z => .inl ⟨z.1, z.2.exs⟩) fun z => .inr z⟩
theorem TuAt.exs {a : Addr} {xs : List V} (h : TuAt K w a xs) : TuAt K (w.exs e) a xs := h.elim (fun z => .inl ⟨z.1.exs, z.2⟩) fun z => .inr z
mutual
theorem Rp.exs : ∀ {d : D} {v : V}, noX d = true → Rp K w d v → Rp K (w.exs e) d v
  | .non, _, _, h => h
  | .bl _, _, _, h => h
  | .int _, _, _, h => h
  | .str _, _, _, h => h
  | .ref _, _, _, h => h
  | .ty _, _, _, h => h
  | .cls _, _, _, h => h
  | .scr ns, v, _, h => by
    obtain ⟨a, rfl, h1⟩ := h
    exact ⟨a, rfl, h1.elim (fun z => .inl ⟨z.1.exs, z.2⟩) fun z => .inr z⟩
  | .lst _ ds, v, n, h => by
    obtain ⟨a, xs, rfl, hl, hr⟩ := h
    exact ⟨a, xs, rfl, hl.exs, RpL.exs n hr⟩
  | .tup ds, v, n, h => by
    obtain ⟨a, xs, rfl, hl, hr⟩ := h
    exact ⟨a, xs, rfl, hl.exs, RpL.exs n hr⟩
  | .dct kvs, v, n, h => by
    obtain ⟨a, rfl, hm, hl⟩ := h
    rcases hl with ⟨ks, h1, h2⟩ | ⟨ks, h1, h2⟩
    · exact ⟨a, rfl, hm.exs, .inl ⟨ks, h1, RpK.exs n h2⟩⟩
    · exact ⟨a, rfl, hm.exs, .inr ⟨ks, h1, RpK.exs n h2⟩⟩
  | .obj C fs, v, n, h => by
    obtain ⟨a, dx, vs, rfl, hm, h1, h2⟩ := h
    exact ⟨a, dx, vs, rfl, hm.exs, h1, RpF.exs n h2⟩
  | .exc C fs, v, n, h => by cases n
theorem RpL.exs : ∀ {ds : List D} {vs : List V}, noXL ds = true → RpL K w ds vs → RpL K (w.exs e) ds vs
  | [], _, _, h => h
  | d :: ds, vs, n, h => by
    obtain ⟨x, r, rfl, h1, h2⟩ := h
    rw [noXL, Bool.and_eq_true] at n
    exact ⟨x, r, rfl, Rp.exs n.1 h1, RpL.exs n.2 h2⟩
theorem RpK.exs : ∀ {ds : List (D × D)} {vs : List (D × V)}, noXK ds = true → RpK K w ds vs → RpK K (w.exs e) ds vs
  | [], _, _, h => h
  | (q, d) :: ds, vs, n, h => by
    obtain ⟨x, r, rfl, h1, h2⟩ := h
    rw [noXK, Bool.and_eq_true] at n
    exact ⟨x, r, rfl, Rp.exs n.1 h1, RpK.exs n.2 h2⟩
theorem RpF.exs : ∀ {ds : List (Str × D)} {vs : List (Str × V)}, noXF ds = true → RpF K w ds vs → RpF K (w.exs e) ds vs
  | [], _, _, h => h
  | (q, d) :: ds, vs, n, h => by
    obtain ⟨x, r, rfl, h1, h2⟩ := h
    rw [noXF, Bool.and_eq_true] at n
    exact ⟨x, r, rfl, Rp.exs n.1 h1, RpF.exs n.2 h2⟩
end
mutual
theorem Rp.noX (hx : w.ex = none) : ∀ {d : D} {v : V}, Rp K w d v → noX d = true
  | .non, _, _ => rfl
  | .bl _, _, _ => rfl
  | .int _, _, _ => rfl
  | .str _, _, _ => rfl
  | .ref _, _, _ => rfl
  | .ty _, _, _ => rfl
  | .cls _, _, _ => rfl
  | .scr ns, v, _ => rfl
  | .lst _ ds, v, h => by obtain ⟨a, xs, rfl, hl, hr⟩ := h; exact RpL.noX hx hr
  | .tup ds, v, h => by obtain ⟨a, xs, rfl, hl, hr⟩ := h; exact RpL.noX hx hr
  | .dct kvs, v, h => by
    obtain ⟨a, rfl, hm, hl⟩ := h
    rcases hl with ⟨ks, h1, h2⟩ | ⟨ks, h1, h2⟩
    · exact RpK.noX hx h2
    · exact RpK.noX hx h2
  | .obj C fs, v, h => by obtain ⟨a, dx, vs, rfl, hm, h1, h2⟩ := h; exact RpF.noX hx h2
  | .exc C fs, v, h => by
    obtain ⟨a, dd, vs, _, h1, _⟩ := h
    rw [hx] at h1; cases h1
theorem RpL.noX (hx : w.ex = none) : ∀ {ds : List D} {vs : List V}, RpL K w ds vs → noXL ds = true
  | [], _, _ => rfl
  | d :: ds, vs, h => by
    obtain ⟨x, r, rfl, h1, h2⟩ := h
    rw [noXL, Rp.noX hx h1, RpL.noX hx h2]; rfl
theorem RpK.noX (hx : w.ex = none) : ∀ {ds : List (D × D)} {vs : List (D × V)}, RpK K w ds vs → noXK ds = true
  | [], _, _ => rfl
  | (q, d) :: ds, vs, h => by
    obtain ⟨x, r, rfl, h1, h2⟩ := h
    rw [noXK, Rp.noX hx h1, RpK.noX hx h2]; rfl
theorem RpF.noX (hx : w.ex = none) : ∀ {ds : List (Str × D)} {vs : List (Str × V)}, RpF K w ds vs → noXF ds = true
  | [], _, _ => rfl
  | (q, d) :: ds, vs, h => by
    obtain ⟨x, r, rfl, h1, h2⟩ := h
    rw [noXF, Rp.noX hx h1, RpF.noX hx h2]; rfl
end
theorem Ok.noX (o : Ok K w) (hx : w.ex = none) : ∀ x m, w.M x = some m → noXM m = true := fun x m h => by
  have z := o.mo x m h
  cases m with
  | lst ds => obtain ⟨_, _, r⟩ := z; exact RpL.noX hx r
  | bag => rfl
  | dK kvs => obtain ⟨_, _, r, _⟩ := z; exact RpK.noX hx r
  | dT kvs => obtain ⟨_, _, r, _⟩ := z; exact RpK.noX hx r
  | ins C fs => obtain ⟨_, _, _, r⟩ := z; exact RpF.noX hx r
theorem Ok.exs (o : Ok K w) (h : ∀ x m, w.M x = some m → noXM m = true) : Ok K (w.exs e) := by
  refine ⟨fun x m q => ?_, o.hid, o.ap, o.len, o.lap, o.lfr, o.hl, o.ll, o.tabs⟩
  have z := o.mo x m q
  have n := h x m q
  cases m with
  | lst ds => obtain ⟨xs, h1, r⟩ := z; exact ⟨xs, h1, RpL.exs n r⟩
  | bag => obtain ⟨c, cs, i, r, m, h1, h2, h3⟩ := z; exact ⟨c, cs, i, r, m, h1, h2.exs, h3⟩
  | dK kvs => obtain ⟨ks, h1, r, h2⟩ := z; exact ⟨ks, h1, RpK.exs n r, h2⟩
  | dT kvs => obtain ⟨ks, h1, r, h2⟩ := z; exact ⟨ks, h1, RpK.exs n r, h2⟩
  | ins C fs => obtain ⟨dx, vs, h1, r⟩ := z; exact ⟨dx, vs, h1, RpF.exs n r⟩
/-- the world with the exception, and back -/
theorem Kp.exback {w w2 : Wd} (k : Kp (w.exs e) w2) : Kp w (w2.exs w.ex) := ⟨fun a u hf q n => by
  obtain ⟨h1, h2⟩ := k.fr a u hf.exs q n
  exact ⟨h1.exs, h2⟩, k.ln, rfl, k.cl, k.tb⟩
end
theorem At.from {K : PySem.W.Frag} {c w w' : Wd} {ρ ρ' : DEnv} {σ σ' : St} (a : At K c w ρ σ) (b : At K w w' ρ' σ') : At K c w' ρ' σ' := ⟨a.kp.trans b.kp, b.re, b.ok, b.hd.trans a.hd, b.ln.trans a.ln⟩
@[simp] def dTry2 (names : List Str) (i len : Nat) (tB : DXK → DS) (tS : DS) : DS := fun D ρ M => tB (fun n fs M' => n ∈ names ∧ tS { nx := fun _ _ => False, rt := fun d M'' => M'' = M' ∧ noX d = true ∧ D.rt d M'' } ((List.replicate len none).set i (some (.exc n fs))) M') D ρ M
section
variable {X : Cx} {c : Wd} {x1 x2 n : Str} {c1 c2 : Value} {i kk : Nat} {body suite : List Stmt} {b₀ : Stmt} {p1 p2 tpos pos pos' : Pos} {names : List Str} {tB : DXK → DS} {tS : DS}
theorem pds_try2 (hcat : ∀ n ∈ names, PySem.W.exmAny X.K (.ref (c.cl n)) [c1, c2] = some true) (hex : c.ex = none) (hN : X.N.Nodup) (h1 : Names X x1 c1) (h2 : Names X x2 c2)
    (hb : ∀ (cb : Wd) (E' : DXK) (pn : List (Addr × Obj)) (xe : Value → Shared → Prop), Kp c cb → Tk cb (X.tr pn xe) E' → PassesOwn (model X.prog X.w) X.A X.env xe → PDSs cb (X.tr pn xe) body (tB E'))
    (hsu : ∀ (c' : Wd) (a : Addr) (oe : Obj) (m : Str) (dd : Addr) (pn : List (Addr × Obj)), c'.cl = c.cl → c'.tb = c.tb → c'.ex = some (a, c'.cl m, dd) → L2N.Zn (.ref (c'.cl m)) (some dd) oe → (∃ vs, oe.data = .fields vs) → PDSs c' (X.suite a ((a, oe) :: pn)) (b₀ :: suite) tS)
    (hs : X.stack = X.env :: X.outer := by rfl) (hf : X.env.frame = some X.env.locals := by rfl) (hi : X.N[i]? = some n := by rfl) (hln : X.env.kindOf n = some .local := by rfl) :
    PDS c X (.Try body [.ExceptHandler (some (.Tuple [.Name x1 p1, .Name x2 p2] kk tpos)) (some n) (b₀ :: suite) pos'] [] [] pos) (dTry2 names i X.N.length tB tS) := by
  refine PS_imp (ps_try_two hs hf hN hi hln h1 h2
    (tb := fun W D σ H => ∃ (cb : Wd) (E' : DXK), Kp c cb ∧ (∀ cls d σ' H', σ'.length = X.N.length → XKof X.K cb E' cls d H' → W cls d σ' H') ∧ liftS X.K cb (tB E') D σ H)
    (ts := fun a cls d D σ H => ∃ (m : Str) (dd : Addr) (c' : Wd), cls = .ref (c'.cl m) ∧ d = some dd ∧ c'.cl = c.cl ∧ c'.tb = c.tb ∧ c'.ex = some (a, c'.cl m, dd) ∧ liftS X.K c' tS D σ H) (fun W pn xe tk hp => ?_) (fun a oe cls d pn hz hv => ?_)) fun D0 σ H ⟨ρ, w, D', hH, a, h, k⟩ => ?_
  · refine ⟨fun pins s σ H D0 I ⟨cb, E', e1, hW, q⟩ => (hb cb E' pn xe e1 (fun u s' ⟨a, B, sI, pins, σ, H, cls, d, e, I, nb, up, sky, na, os, ag, w⟩ => tk u s' ⟨a, B, sI, pins, σ, H, cls, d, e, I, nb, up, sky, na, os, ag, hW cls d σ H I.len w⟩) hp).run pins s σ H D0 I q⟩
  · refine ⟨fun pins s σ H D0 I ⟨m, dd, c', e1, e2, e3, e5, e4, q⟩ => ?_⟩
    subst e1 e2
    exact (hsu c' a oe m dd pn e3 e5 e4 hz hv).run pins s σ H D0 I q
  · have wcl : w.cl = c.cl := a.kp.cl
    have wex : w.ex = none := a.kp.ex.trans hex
    refine ⟨w, fun n fs M' => n ∈ names ∧ tS { nx := fun _ _ => False, rt := fun d M'' => M'' = M' ∧ noX d = true ∧ D'.rt d M'' } ((List.replicate X.N.length none).set i (some (.exc n fs))) M', a.kp, fun cls d σ' H' hl hx => ?_, ρ, w, D', hH, a.self, h, ?_⟩
    · obtain ⟨m, fs, w', dd, vs, rfl, rfl, rfl, b, fr, hx, r, hm, q⟩ := hx
      have w'cl : w'.cl = w.cl := b.kp.cl
      have w'ex : w'.ex = none := b.kp.ex.trans wex
      refine ⟨by rw [wcl]; exact hcat m hm, fun ae hae => ⟨m, dd, w'.exs (some (ae, w.cl m, dd)), by show _ = Value.ref (w'.cl m); rw [w'cl], rfl, w'cl.trans wcl, (b.kp.tb.trans a.kp.tb), by show some (ae, w.cl m, dd) = some (ae, w'.cl m, dd); rw [w'cl], ?_⟩⟩
      have hil : i < X.N.length := (List.getElem?_eq_some_iff.mp hi).1
      refine ⟨_, w'.exs (some (ae, w.cl m, dd)), _, rfl, ⟨Kp.refl _, ⟨by simp [hl], fun j d hj => ?_⟩, b.ok.exs (b.ok.noX w'ex), rfl, rfl⟩, q, ?_⟩
      · by_cases hji : i = j
        · subst hji
          rw [List.getElem?_set_self (by simpa using hil)] at hj
          obtain rfl : D.exc m fs = d := by simpa using hj
          refine ⟨.ref ae, by rw [List.getElem?_set_self (by omega)], ae, dd, vs, rfl, ?_, fr.exs, hx, RpF.exs (RpF.noX w'ex r) r⟩
          show some (ae, w.cl m, dd) = some (ae, w'.cl m, dd)
          rw [w'cl]
        · rw [List.getElem?_set_ne hji, List.getElem?_replicate] at hj
          split at hj <;> cases hj
      · refine { nx := fun _ _ _ q => q.elim, rt := fun d w2 v ⟨q1, q2, q3⟩ b2 r2 => ?_, bk := fun _ _ _ q => q.elim, ct := fun _ _ _ q => q.elim }
        refine k.rt d (w2.exs none) v q3 ?_ (r2.exs q2)
        have kk := b2.kp.exback
        rw [w'ex] at kk
        refine ⟨b.kp.trans kk, b2.ok.exs fun x m' hxm => ?_, b2.hd.trans b.hd, b2.ln.trans b.ln⟩
        have hxm' : w'.M x = some m' := by
          have : w2.M = w'.M := q1
          rw [← this]; exact hxm
        exact b.ok.noX w'ex x m' hxm'
    · exact { nx := fun ρ' w' σ' q b' a' => k.nx ρ' w' σ' q b' (a.from a'), rt := k.rt, bk := fun ρ' w' σ' q b' a' => k.bk ρ' w' σ' q b' (a.from a'), ct := fun ρ' w' σ' q b' a' => k.ct ρ' w' σ' q b' (a.from a') }
/-! ### e.f of the handled exception -/
theorem rpF_lookup {K : PySem.W.Frag} {w : Wd} {f : Str} {d : D} : ∀ {fs : List (Str × D)} {vs : List (Str × V)}, RpF K w fs vs → fs.lookup f = some d → ∃ v, vs.lookup f = some v ∧ Rp K w d v
  | [], vs, r, h => by cases h
  | (g, e) :: fs, vs, r, h => by
    obtain ⟨x, q, rfl, r1, r2⟩ := r
    rw [List.lookup] at h ⊢
    cases hg : f == g with
    | true => rw [hg] at h; cases h; exact ⟨x, rfl, r1⟩
    | false => rw [hg] at h; exact rpF_lookup r2 h
theorem pe_xfP {X : Cx} {a C : Addr} {oe : Obj} {d : Option Addr} {e : Expr} {te : TE} {pos : Pos} {n : Str} (hp : (a, oe) ∈ X.pn) (hz : Zc (.ref C) d oe) (hf : ∃ vs, oe.data = .fields vs) (he : PE X e te) (hb : attributeBase e n X.env (eval e X.env) = eval e X.env := by rfl) :
    PE X (.Attribute e n pos) (fun σ H Q => te σ H fun x H1 => x = .ref a ∧ (XfC X.K C ∧ PySem.W.findIn X.K (.ref C) n = some none) ∧ ∃ (dd : Addr) (fs : List (Str × V)) (v : V), d = some dd ∧ H1 dd = some (.xd fs) ∧ fs.lookup n = some v ∧ Q v H1) := by
  refine ⟨fun pins s σ H Q I h => ?_⟩
  refine attr_of hb (thn (he.run pins s σ H _ I h) fun u s1 hh => ?_)
  obtain ⟨x, H1, I1, rx, ex, ⟨T, hno⟩, dd, fs, v, ed, ea, l, q⟩ := hh
  subst ex
  obtain rfl : u = Value.ref a := rx
  subst ed
  obtain ⟨ha, _⟩ := I1.pin (a, oe) (List.mem_append_left _ hp)
  obtain ⟨vs, hd⟩ := hf
  have hx : ObjOk X.prog X.w H1 s1.heap dd (.xd fs) := I1.hok dd _ ea
  obtain ⟨mA, hns, hr⟩ := hx
  obtain ⟨od, ho, hl⟩ := lookIn_ns hns
  obtain ⟨u, hu, ru⟩ := RelO.some_of (v := v) (o := mA n) (by rw [← l]; exact hr n)
  have J : PySem.W.InstAt s1.heap a oe C (some od) := ⟨ha, hz.1, by unfold PySem.W.notCls; rw [hd] <;> rfl, by rw [hz.2]; exact ho⟩
  exact HandSPX.exc_get I1.kIn J T.ga T.gg T.exC (PySem.W.findObj_own T.hdC hno rfl (by rw [hl, hu])) (handed_of ru) ⟨v, H1, I1.tok _, ru, q⟩
@[simp] def dXf (names : List Str) (f : Str) (te : DE) : DE := fun ρ M Q => te ρ M fun d M1 => match d with
  | .exc n fs => n ∈ names ∧ (match fs.lookup f with | some d' => Q d' M1 | none => False)
  | _ => False
theorem pd_xf {a : Addr} {oe : Obj} {m : Str} {dd : Addr} {e : Expr} {te : DE} {f : Str} (hx : ∀ n ∈ names, XfC X.K (c.cl n) ∧ PySem.W.findIn X.K (.ref (c.cl n)) f = some none) (hex : c.ex = some (a, c.cl m, dd)) (hp : (a, oe) ∈ X.pn) (hz : L2N.Zn (.ref (c.cl m)) (some dd) oe) (hf : ∃ vs, oe.data = .fields vs)
    (he : PD c X e te) (hb : attributeBase e f X.env (eval e X.env) = eval e X.env := by rfl) : PD c X (.Attribute e f pos) (dXf names f te) :=
  PE_imp (pe_xfP hp hz.zc hf he hb) fun σ H Q ⟨ρ, w, Q', hH, a', h, k⟩ => ⟨ρ, w, _, hH, a', h, fun d w1 v q b r => by
    cases d with
    | exc n fs =>
      obtain ⟨hn, q⟩ := q
      obtain ⟨ae, dd', vs, rfl, e1, fr, e2, r2⟩ := r
      have w1ex : w1.ex = some (a, c.cl m, dd) := (b.kp.ex.trans a'.kp.ex).trans hex
      have w1cl : w1.cl = c.cl := b.kp.cl.trans a'.kp.cl
      rw [w1ex, w1cl] at e1
      injection e1 with e1
      injection e1 with e3 e4
      injection e4 with e4 e5
      subst e3 e5
      refine ⟨rfl, by rw [e4]; exact hx n hn, dd, vs, ?_⟩
      cases hl : fs.lookup f with
      | none => rw [hl] at q; exact q.elim
      | some d' =>
        rw [hl] at q
        obtain ⟨v', h1, h2⟩ := rpF_lookup r2 hl
        exact ⟨v', rfl, e2, h1, k d' w1 v' q b h2⟩
    | _ => exact q.elim⟩
end
end DL
/-! The data layer, part j: defs called while an exception is handled. -/
namespace DL
open PySem L2 L2H PyProof.Rows
structure FnHp (P : Program) (w : World) (K : PySem.W.Frag) (mg : Str → Option Value) (base : Heap) (CX : CXT) (k : Nat) (f : Addr) (fd : FuncData) (ps : List Str) (sp : Addr × Obj → Sp) : Prop where
  len : ∀ p vs H Q E, sp p vs H Q E → vs.length = ps.length
  run : ∀ (A : Around) (outer : List Env) (s : Shared) (H : Hp) (args : Args) (us : List Value) (vs : List V) (Q : VK) (E : XK) (p : Addr × Obj), RoomH k A → Hot1 A p → PinOk outer H s p → Env0 P w K mg base A outer s H → BindsTo s fd args (ps.zip us) → Vals vs us → sp p vs H Q E →
    codeAny (model P w) A (.call (.ref f) args) (CR CX outer P w H s Q E) s
theorem fn_ofHp {CX : CXT} {P : Program} {w : World} {K : PySem.W.Frag} {mg : Str → Option Value} {base : Heap} {k : Nat} {f : Addr} {x qual : Str} {params : Arguments} {body : List Stmt} {scope : Scope} {dvs : List V} {kws : List (Str × V)} {fd : FuncData} {N ps : List Str} {sp : Addr × Obj → Sp}
    (F : FunD K x qual params body scope dvs kws f fd) (S : FnScope N ps scope) (len : ∀ p vs H Q E, sp p vs H Q E → vs.length = ps.length)
    (hbody : ∀ (cdv : Value) (A : Around) (outer : List Env) (s : Shared) (H : Hp) (vs : List V) (Q : VK) (E : XK) (p : Addr × Obj), RoomH k (A.deeper (envOfC qual scope s.heap.objs.size f cdv)) → sp p vs H Q E →
      ∃ t, PSs (cxH CX P w K mg base N qual scope f cdv A outer s H E p) body t ∧ t { nx := fun _ H' => Q .non H', rt := Q } (L2.start N vs) H) : FnHp P w K mg base CX (k + 1) f fd ps sp := by
  refine ⟨len, fun A outer s H args us vs Q E p hr hot hpin e0 hb r hsp => ?_⟩
  obtain ⟨oc, od, dV, kV, doc, pm, an, cdv, ct, osl, rfl, lk, hcd, _, _⟩ := F.ex
  have hl := len _ _ _ _ _ hsp
  have KX : K.In s.heap := e0.mod.kin.keeps fun b o e => (e0.bs b o e).1
  have lim : s.heap.NoLimit := e0.mod.nolimit.keeps fun b o e => (e0.bs b o e).1
  have hkind : ∀ y ∈ ps.zip us, scope.names.lookup y.1 = some .local ∨ (scope.names.lookup y.1 = some .cell ∧ ((cellsFrom (s.heap.objs.size + 1) scope.names []).lookup y.1).isSome = true) := fun ⟨n, v⟩ hy => by
    rcases S.par n (List.of_mem_zip hy).1 with q | q
    · exact .inl q
    · exact .inr ⟨q, PySem.W.cellsFrom_some _ _ _ (.inl q)⟩
  refine codeAny_call_function hr.depth (KX _ _ lk) rfl S.co S.gen rfl (PySem.W.codeRec_of KX hcd) (hb _ _ _ _ ?_)
  refine wpAny_newFunctionEnv_cells S.kind hkind fun env he s1 x => ?_
  subst he
  refine ⟨lim.keeps x.toInCall.keep, codeAny_func ?_⟩
  obtain ⟨t, ht, hq⟩ := hbody cdv A outer s H vs Q E p (hr.deeper _) hsp
  have I : Inv (cxH CX P w K mg base N qual scope f cdv A outer s H E p) [] (L2.start N vs) H s1 := inv_startH S hpin e0 hl r x
  refine wpAny_mono (ht.run [] s1 (L2.start N vs) H _ I hq) (fun fl s' hs => ?_) fun e s' hs => hs
  have fin : ∀ {σ' : L2.St} {H' : Hp} {v : V} {u : Value}, Inv (cxH CX P w K mg base N qual scope f cdv A outer s H E p) [] σ' H' s' → RelV v u → Q v H' → CE outer P w H s Q u s' :=
    fun {σ' H' v u} J rv q => ⟨v, H', J.os, J.bare, J.base, J.hok, rv, q⟩
  cases fl with
  | ret u => obtain ⟨v, σ', H', J, rv, q⟩ := hs; exact fin J rv q
  | next => obtain ⟨σ', H', J, q⟩ := hs; exact fin (v := V.non) (u := Value.none) J rfl q
  | brk => obtain ⟨_, _, _, q⟩ := hs; exact False.elim q
  | cont => obtain ⟨_, _, _, q⟩ := hs; exact False.elim q
/-- over data: the exception p is handled -/
def upH (K : PySem.W.Frag) (cl : Str → Addr) (s : DSp) (p : Addr × Obj) : Sp := fun vs H Q _ => ∃ (w : Wd) (ds : List D) (Q' : DK) (m : Str) (dd : Addr), w.H = H ∧ w.cl = cl ∧ w.ex = some (p.1, cl m, dd) ∧ L2N.Zn (.ref (cl m)) (some dd) p.2 ∧ (∃ vs, p.2.data = .fields vs) ∧ Ok K w ∧ RpL K w ds vs ∧ s ds w.M Q' DX0 ∧ Wv K w Q' Q
section
variable {P : Program} {w : World} {K : PySem.W.Frag} {mg : Str → Option Value} {base : Heap} {x qual : Str} {st : Stmt} {dvs : List V} {kws : List (Str × V)} {f : Addr} {fd : FuncData} {cl : Str → Addr}
theorem fnH {N ps : List Str} {k : Nat} {s : DSp} {t : DS} (F : FunD K x qual (defArgs st) (defBody st) (defScope st) dvs kws f fd) (S : FnScope N ps (defScope st))
    (hb : ∀ (cdv : Value) (A : Around) (outer : List Env) (sh : Shared) (H : Hp) (E : XK) (p : Addr × Obj) (c : Wd) (m : Str) (dd : Addr), c.cl = cl → c.ex = some (p.1, c.cl m, dd) → L2N.Zn (.ref (c.cl m)) (some dd) p.2 → (∃ vs, p.2.data = .fields vs) → RoomH k (A.deeper (envOfC qual (defScope st) sh.heap.objs.size f cdv)) →
      PDSs c (cxH CX0 P w K mg base N qual (defScope st) f cdv A outer sh H E p) (defBody st) t)
    (hs : ∀ ds M Q, s ds M Q DX0 → ds.length = ps.length ∧ t { nx := fun _ M' => Q .non M', rt := Q } (startD N ds) M) : FnHp P w K mg base CX0 (k + 1) f fd ps (upH K cl s) := by
  refine fn_ofHp F S (fun p vs H Q E h => ?_) (fun cdv A outer sh H vs Q E p hr h => ?_)
  · obtain ⟨w, ds, Q', m, dd, hH, hcl, hex, hz, hv, ok, r, h, k⟩ := h
    rw [r.length]; exact (hs ds _ Q' h).1
  · obtain ⟨w, ds, Q', m, dd, hH, hcl, hex, hz, hv, ok, r, h, k⟩ := h
    refine ⟨liftS K w t, hb cdv A outer sh H E p w m dd hcl (by rw [hcl]; exact hex) (by rw [hcl]; exact hz) hv hr, startD N ds, w, _, hH, ⟨Kp.refl w, RE.start r, ok, rfl, rfl⟩, (hs ds _ Q' h).2, ?_⟩
    exact { nx := fun ρ' w' σ' q b a => k .non w' .non q b rfl, rt := k, bk := fun _ _ _ q => q.elim, ct := fun _ _ _ q => q.elim }
structure FndH (P : Program) (w : World) (K : PySem.W.Frag) (mg : Str → Option Value) (base : Heap) (cl : Str → Addr) (k : Nat) (x : Str) (st : Stmt) (ps : List Str) (s : DSp) : Prop where
  ex : ∃ f fd, FunD K x x (defArgs st) (defBody st) (defScope st) [] [] f fd ∧ FnHp P w K mg base CX0 k f fd ps (upH K cl s) ∧ mg x = some (.ref f) ∧ Binds K fd ps []
end
section
variable {X : Cx} {c : Wd} {e : Expr} {es : List Expr} {tl : DA} {pos q : Pos} {x : Str} {st : Stmt} {ps : List Str} {s : DSp} {k : Nat}
theorem pd_callH {cl : Str → Addr} (hcl : c.cl = cl) {a : Addr} {oe : Obj} {m : Str} {dd : Addr} (hex : c.ex = some (a, c.cl m, dd)) (hp : (a, oe) ∈ X.pn) (hh : X.A.handled = some (.ref a)) (hz : L2N.Zn (.ref (c.cl m)) (some dd) oe) (hv : ∃ vs, oe.data = .fields vs)
    (G : FndH X.prog X.w X.K X.mg X.base cl k x st ps s) (hr : RoomH k X.A) (ha : PDA c X (e :: es) tl) (hg : Gl X x := by rfl) (hdb : (x == ("__debug__" : Str)) = false := by decide)
    (he : starEach (e :: es) X.env = (false, eval e X.env) :: starEach es X.env := by rfl) (hpl : (backTo pos (starEach es X.env)).any (·.1) = false := by rfl) : PD c X (.Call (.Name x q) (e :: es) [] pos) (dCall s DX0 tl) := by
  obtain ⟨f, fd, F, G, hm, hb⟩ := G.ex
  refine ⟨fun pins sh σ H Q I ⟨ρ, w, Q', hH, a0, h, k⟩ => ?_⟩
  refine wpAny_Call_Name_kw (ld_glob I hg hm ?_ hdb)
  have h1 : liftA X.K c tl σ H (fun vs H1 => upH X.K cl s (a, oe) vs H1 Q E0) := ⟨ρ, w, _, hH, a0, h, fun ds w1 vs q b r => ⟨w1, ds, Q', m, dd, rfl, by rw [b.kp.cl, a0.kp.cl, hcl], by rw [b.kp.ex, a0.kp.ex, hex, hcl], by rw [← hcl]; exact hz, hv, b.ok, r, q, k.back b⟩⟩
  refine PySem.W.callWith_K (h₀ := X.base) I.ok.mod.kin F.kp (thn (ha.run pos pins sh σ H _ I h1) fun us s1 ⟨vs, H1, I1, r, q⟩ => ⟨I1.kIn, ?_⟩) he hpl
  have hl : us.length = ps.length := by rw [← r.length]; exact G.len _ _ _ _ _ q
  have b := hb s1 us I1.kIn (by rw [List.append_nil]; exact hl)
  rw [List.append_nil] at b
  have P1 := I1.pin (a, oe) (List.mem_append_left _ hp)
  have hpin : PinOk X.stack H1 s1 (a, oe) := ⟨P1.1, P1.2.1, fun hm => (List.mem_cons.mp (I1.stkSub a hm)).elim P1.2.2.1 P1.2.2.2.1, P1.2.2.2.2⟩
  have hot : Hot1 X.A (a, oe) := by
    obtain ⟨vs, e⟩ := hv
    exact ⟨hh, vs, e, hz.2.2 vs e⟩
  refine wpAny_call (codeAny_mono (G.run X.A X.stack s1 H1 ⟨us, []⟩ us vs Q E0 (a, oe) hr hot hpin I1.env0 b r q) fun r s' hq => ?_)
  cases r with
  | error e => exact (show False from hq).elim
  | ok fl =>
    cases fl with
    | ret u => exact I1.after hq
    | next => exact False.elim hq
    | brk => exact False.elim hq
    | cont => exact False.elim hq
end
end DL
/-! The data layer, part k: a lambda without parameters, handed to a def that calls it. -/
namespace DL
open PySem PySem.Spec PyProof.Rows L2 LamX
/-- the context of the lambda's body -/
def lamN (X : Cx) (A : Around) (outer : List Env) (s : Shared) (H : Hp) (E : XK) (scope : Scope) (f c' : Addr) : Cx :=
  (lamCx X A outer s H E scope f c').wish fun e s' => wpAny (model X.prog X.w) (A.deeper (lamEnv X scope s.heap.objs.size f c')) (leaving (lamEnv X scope s.heap.objs.size f c') e) (fun _ s'' => L2N.CX X.prog X.w outer H s E e s'') (fun e' s'' => L2N.CX X.prog X.w outer H s E e' s'') s'
section
variable {X : Cx} {pins : List (Addr × Obj)} {σ : L2.St} {H : Hp} {s : Shared}
theorem pe_actN {CXg : CXT} {Eg : XK} {Ng : List Str} {qg : Str} {sg : Scope} {g f c' : Addr} {cdg pm ctv : Value} {params : Arguments} {body : Expr} {scope : Scope} {k i : Nat} {a : Str} {pn : List (Addr × Obj)} {xe : Value → Shared → Prop} {W : WX} {E : XK} {tb : TE} {p1 p2 : Pos}
    (I : Inv X pins σ H s) (L : LamS X.env.scope scope) (hf : s.heap.get? f = some (PySem.W.kla_obj "<lambda>" (X.env.qual ++ "<lambda>") params body scope (cloFrom X.env.cells scope.names []) pm c' ctv)) (hfn : H f = none) (hfr : f ∉ frs X.stack)
    (hbind : bindArgs (PySem.W.kla_fn "<lambda>" (X.env.qual ++ "<lambda>") params body scope (cloFrom X.env.cells scope.names []) pm (.ref c') ctv) ⟨[], []⟩ = pure [])
    (tk : L2N.Takes ((cxOf CXg X.prog X.w X.K X.mg X.base Ng qg sg g cdg X.A X.stack s H Eg).tr pn xe) W) (hW : ∀ cls d σ' H', E cls d H' → W cls d σ' H') (hr : Room (k + 1) (X.A.deeper (envOfC qg sg s.heap.objs.size g cdg)))
    (hbody : ∀ (A : Around) (outer : List Env) (s : Shared) (H : Hp), Room k (A.deeper (lamEnv X scope s.heap.objs.size f c')) → PE (lamN X A outer s H E scope f c') body tb)
    (hN : Ng[i]? = some a) (hv : Vis sg a) (hd : (a == ("__debug__" : Str)) = false) (hcd : (a == ("__classdict__" : Str)) = false) :
    PE ((cxOf CXg X.prog X.w X.K X.mg X.base Ng qg sg g cdg X.A X.stack s H Eg).tr pn xe) (.Call (.Name a p1) [] [] p2)
      (fun σZ HZ Q => σZ[i]? = some (some (.ref f)) ∧ HZ c' = some (CodeO c' (X.env.qual ++ "<lambda>")) ∧ tb σ HZ Q) := by
  refine ⟨fun pinsZ sZ σZ HZ Q IZ h => ?_⟩
  obtain ⟨hs, hc, ht⟩ := h
  refine wpAny_Call_Name_kw (thn ((pe_var (pos := p1) (i := i) hN hv hd hcd).run pinsZ sZ σZ HZ (fun v H1 => v = .ref f ∧ H1 = HZ) IZ ⟨.ref f, hs, rfl, rfl⟩) fun u s1 ⟨v, H1, I1, r1, q1⟩ => ?_)
  obtain ⟨ev, eH⟩ := q1
  subst ev
  rw [eH] at I1
  obtain rfl : u = Value.ref f := r1
  have of1 : s1.heap.get? f = some (PySem.W.kla_obj "<lambda>" (X.env.qual ++ "<lambda>") params body scope (cloFrom X.env.cells scope.names []) pm c' ctv) := I1.base.keep f _ hf hfn hfr (fun z => nomatch (show f ∈ ([] : List Addr) from z))
  refine PySem.W.callWith_F0 ⟨_, _, _, _, of1⟩ ?_
  obtain ⟨⟨oc, vs, t, hoc, hdc, hvc⟩, _, _⟩ := I1.hok c' _ hc
  have rc : codeAny (model X.prog X.w) (X.A.deeper (envOfC qg sg s.heap.objs.size g cdg)) (.call (.ref f) ⟨[], []⟩) (CR (L2N.CX X.prog X.w) (envOfC qg sg s.heap.objs.size g cdg :: X.stack) X.prog X.w HZ s1 Q E) s1 := by
    refine PySem.W.kla_callFunE hr.depth of1 rfl L.co L.gen rfl ⟨c', oc, vs, t, rfl, hoc, hdc, hvc⟩ ?_
    rw [hbind]
    refine wpAny_pure (wpAny_newFunctionEnv (fun y hy => (L.own y hy).2) (fun y hy => absurd hy (by simp)) (fun h₁ hns hsb => ⟨I1.nolimit.fresh _ hsb, ?_⟩) L.kind)
    show codeAny _ _ (.expr body (lamEnv X scope s1.heap.objs.size f c')) _ _
    have kp : ∀ b o, s1.heap.get? b = some o → h₁.get? b = some o := fun b o e => hsb.extBut b o (Nat.ne_of_lt (Heap.lt_size e)) (Heap.get?_push_of_some _ e)
    have J0 := lam_start2 (A := X.A.deeper (envOfC qg sg s.heap.objs.size g cdg)) (outer := envOfC qg sg s.heap.objs.size g cdg :: X.stack) (s1 := s1) (HZ := HZ) (E := E) (scope := scope) (f := f) (c' := c') (tk := s1.toks + ([] : List (Str × Value)).length) I L I1.env0 hr.hd I1.base hns kp
    have J : Inv (lamN X (X.A.deeper (envOfC qg sg s.heap.objs.size g cdg)) (envOfC qg sg s.heap.objs.size g cdg :: X.stack) s1 HZ E scope f c') [] σ HZ { s1 with heap := h₁, toks := s1.toks + ([] : List (Str × Value)).length } := J0.wish _
    refine PySem.W.kla_codeExpr (wpAny_mono ((hbody _ _ s1 HZ (hr.deeper _)).run [] _ _ HZ Q J ht) (fun v s' hq => ?_) fun e s' hq => hq)
    obtain ⟨w', H', J', rv, q⟩ := hq
    exact ⟨w', H', J'.os, J'.bare, J'.base, J'.hok, rv, q⟩
  refine wpAny_call (codeAny_mono rc fun r s' hq => ?_)
  cases r with
  | error e => exact L2N.passes_call tk hW pinsZ σZ HZ s1 e s' I1 hq
  | ok fl =>
    cases fl with
    | ret u => exact I1.after hq
    | next => exact False.elim hq
    | brk => exact False.elim hq
    | cont => exact False.elim hq
end
/-! ### over data -/
theorem tkL {X : Cx} {A : Around} {outer : List Env} {s : Shared} {H : Hp} {E : XK} {scope : Scope} {f c' : Addr} {c : Wd} {E' : DXK} (h : WvX X.K c E' E) : Tk c (lamN X A outer s H E scope f c') E' := by
  refine L2N.Takes.imp (L2N.takes_of (E := E) rfl rfl rfl rfl) fun cls d σ H q => ?_
  obtain ⟨n, fs, w', dd, vs, rfl, rfl, rfl, b, fr, hx, r, e⟩ := q
  exact h n fs w' dd vs e b fr hx r
/-- what the lambda does, as the def that got it sees it -/
abbrev DAct := DXK → Mu → DK → Prop
@[simp] def dAct (f : Addr) (tl : DAct) (E : DXK) : DE := fun ρ M Q => ρ[0]? = some (some (.ref f)) ∧ tl E M Q
@[simp] def dLam (TT : DAct → Mu → DK → Prop) (tL : DXK → DE) : DE := fun ρ M Q => TT (fun E M' Q' => tL E ρ M' Q') M Q
section
variable {X : Cx} {c : Wd} {cl : Str → Addr} {tb : List (Addr × Str)} {x a : Str} {st : Stmt} {g cc Pt : Addr} {fd : FuncData} {Ng : List Str} {k : Nat} {params : Arguments} {body : Expr} {scope : Scope} {tL : DXK → DE} {tG : Addr → DAct → DS} {TT : DAct → Mu → DK → Prop} {p lpos pos : Pos}
theorem pd_lam (hcc : Cc cl tb c) (htb : (Pt, X.env.qual ++ "<lambda>") ∈ tb) (hu : ∀ p ∈ tb, p.1 = Pt → p.2 = X.env.qual ++ "<lambda>") (F : FunD X.K x x (defArgs st) (defBody st) (defScope st) [] [] g fd) (hm : X.mg x = some (.ref g)) (hb : L2.Binds X.K fd [a] []) (Sg : FnScope Ng [a] (defScope st))
    (hG : ∀ (cdv : Value) (s : Shared) (H : Hp) (f : Addr) (cg : Wd) (tl : DAct), Cc cl tb cg → Room (k + 1) (X.A.deeper (envOfC x (defScope st) s.heap.objs.size g cdv)) →
      (∀ (cb : Wd) (E' : DXK) (pn : List (Addr × Obj)) (xe : Value → Shared → Prop) (p1 p2 : Pos), Cc cl tb cb → Kp cg cb → Tk cb ((cxOf CX0 X.prog X.w X.K X.mg X.base Ng x (defScope st) g cdv X.A X.stack s H E0).tr pn xe) E' →
        PD cb ((cxOf CX0 X.prog X.w X.K X.mg X.base Ng x (defScope st) g cdv X.A X.stack s H E0).tr pn xe) (.Call (.Name a p1) [] [] p2) (dAct f tl E')) →
      PDSs cg (cxOf CX0 X.prog X.w X.K X.mg X.base Ng x (defScope st) g cdv X.A X.stack s H E0) (defBody st) (tG f tl))
    (hT : ∀ f tl M Q, TT tl M Q → tG f tl { nx := fun _ M' => Q .non M', rt := Q } (startD Ng [.ref f]) M)
    (TB : TabB X.base X.mg cc Pt) (hcode : X.env.code = .ref cc) (hr : Room (k + 2) X.A) (L : LamS X.env.scope scope)
    (hbody : ∀ (A : Around) (outer : List Env) (s : Shared) (H : Hp) (E : XK) (f c' : Addr) (cL : Wd) (E' : DXK), Cc cl tb cL → Tk cL (lamN X A outer s H E scope f c') E' → Room k (A.deeper (lamEnv X scope s.heap.objs.size f c')) → PD cL (lamN X A outer s H E scope f c') body (tL E'))
    (hdef : defaultsOf params X.env = ([], []) := by rfl) (hbind : ∀ (q : Str) (cl : List (Str × Addr)) (pm cv ctv : Value), bindArgs (PySem.W.kla_fn "<lambda>" q params body scope cl pm cv ctv) ⟨[], []⟩ = pure [] := by intros; rfl)
    (hg : Gl X x := by rfl) (hNg : Ng[0]? = some a := by rfl) (hva : Vis (defScope st) a := by first | exact Or.inl rfl | exact Or.inr (Or.inl rfl) | exact Or.inr (Or.inr rfl)) (hdb : (x == ("__debug__" : Str)) = false := by decide) (hd : (a == ("__debug__" : Str)) = false := by decide) (hcd : (a == ("__classdict__" : Str)) = false := by decide) :
    PD c X (.Call (.Name x p) [.Lambda params body scope lpos] [] pos) (dLam TT tL) := by
  refine ⟨fun pins s σ H Q I ⟨ρ, w, Q', hH, at0, h, kw⟩ => ?_⟩
  subst hH
  obtain ⟨oc, od, dV, kV, doc, pm, an, cdv, ct, osl, rfl, lk, hcg, _, _⟩ := F.ex
  refine wpAny_Call_Name_kw (ld_glob I hg hm ?_ hdb)
  refine PySem.W.callWith_K (h₀ := X.base) I.ok.mod.kin F.kp ?_ (by rfl) (by rfl)
  show wpAny _ _ (spliced ((false, eval (.Lambda params body scope lpos) X.env) :: backTo pos (starEach [] X.env))) _ _ s
  have tbw : w.tb = tb := at0.kp.tb.trans hcc.tb
  refine Calls.spliced_cons (lam_make2 (T := w.tb) I TB hcode (by rw [tbw]; exact htb) (by rw [tbw]; exact hu) at0.ok.tabs hdef (L.has I.ok) fun f c' pm' ctv H1 s' I1 eN T1 hf hfn hfr hco => ?_)
  refine Calls.spliced_nil ⟨I1.kIn, ?_⟩
  -- the world behind
  have kp1 : Kp w (w.at H1) := Kp.of (fun b u hm e n => ⟨hm.at, eN b u e n⟩) (fun r b u e => ⟨e, fun q => by
    obtain ⟨xs, rfl⟩ := at0.ok.ll r b u e
    exact eN b _ q (fun ps z => by cases z)⟩) rfl rfl rfl
  have ok1 : Ok X.K (w.at H1) := ⟨fun b m e => by
      obtain ⟨u, q, n1, _⟩ := at0.ok.plain e
      exact (at0.ok.mo b m e).mono kp1 (by show H1 b = _; rw [eN b u q n1, q]),
    fun b u e => by
      obtain ⟨xs, rfl⟩ := at0.ok.hl b u e
      exact eN b _ (at0.ok.hid b _ e) (fun ps z => by cases z), at0.ok.ap, fun r b u e => by
      obtain ⟨xs, rfl⟩ := at0.ok.ll r b u e
      exact eN b _ (at0.ok.len r b _ e) (fun ps z => by cases z), at0.ok.lap, at0.ok.lfr, at0.ok.hl, at0.ok.ll, T1⟩
  have b1 : Bh X.K w (w.at H1) := ⟨kp1, ok1, rfl, rfl⟩
  have fc' : Fr (w.at H1) c' := by
    have hco' : (w.at H1).H c' = some (.ext _) := hco
    refine ⟨?_, ?_, fun r => ?_⟩
    · cases e : (w.at H1).M c' with
      | none => rfl
      | some m =>
        obtain ⟨u, q, _, n2⟩ := ok1.plain e
        rw [hco'] at q
        exact absurd (Option.some.inj q).symm (n2 _)
    · cases e : (w.at H1).hd c' with
      | none => rfl
      | some u =>
        obtain ⟨xs, rfl⟩ := ok1.hl c' u e
        have q := ok1.hid c' _ e
        rw [hco'] at q; cases q
    · cases e : (w.at H1).ln r c' with
      | none => rfl
      | some u =>
        obtain ⟨xs, rfl⟩ := ok1.ll r c' u e
        have q := ok1.len r c' _ e
        rw [hco'] at q; cases q
  have at1 := at0.next b1
  have w1cc : Cc cl tb (w.at H1) := hcc.sc (at0.kp.trans kp1).sc
  have rc : codeAny (model X.prog X.w) X.A (.call (.ref g) ⟨[.ref f], []⟩) (CR CX0 X.stack X.prog X.w H1 s' Q E0) s' := by
    refine run_ofS (k := k + 1) (N := Ng) (ps := [a]) (us := [.ref f]) (vs := [.ref f]) lk hcg Sg hr I1.env0 (hb s' [.ref f] I1.kIn rfl) (.cons rfl .nil) rfl fun hr' => ?_
    refine ⟨_, hG cdv s' H1 f (w.at H1) (fun E M' Q' => tL E ρ M' Q') w1cc hr' (fun cb E' pn xe p1 p2 bcc bkp btk => ?_), ?_⟩
    · -- the call of the lambda
      have act := pe_actN (E := XKof X.K cb E') (tb := fun σ H Q => ∃ cL : Wd, Cc cl tb cL ∧ Bh X.K cb cL ∧ lift X.K cL (tL E') σ H Q) (p1 := p1) (p2 := p2) (i := 0) I1 L hf hfn hfr (hbind _ _ _ _ _) btk (fun _ _ _ _ h => h) hr'
        (fun A outer s2 H2 hr2 => ⟨fun pins2 s3 σ3 H3 Q3 I3 ⟨cL, e1, e3, q⟩ => (hbody A outer s2 H2 _ f c' cL E' e1 (tkL fun n fs w' dd vs ee b' fr hx r => ⟨n, fs, w', dd, vs, by rw [e3.kp.cl], rfl, rfl, e3.trans b', fr, hx, r, ee⟩) hr2).run pins2 s3 σ3 H3 Q3 I3 q⟩) hNg hva hd hcd
      refine PE_imp act fun σZ HZ QZ ⟨ρZ, wZ, QZ', hHZ, aZ, ⟨h0, hq⟩, kZ⟩ => ?_
      subst hHZ
      have kpZ : Kp (w.at H1) wZ := bkp.trans aZ.kp
      obtain ⟨v0, e0, r0⟩ := aZ.re.2 0 _ h0
      obtain rfl : v0 = .ref f := r0
      refine ⟨e0, ?_, wZ, bcc.sc aZ.kp.sc, aZ.bh, ρ, wZ, QZ', rfl, ⟨Kp.refl _, at1.re.mono kpZ, aZ.ok, rfl, rfl⟩, hq, kZ⟩
      obtain ⟨_, u, q1, q2⟩ := kpZ.fr c' _ fc' hco (fun ps z => by cases (show HO.ext _ = HO.tbl ps from z))
      rw [q1, unl_ext (φ := _) (show unl u = .ext _ from q2)]
      rfl
    · exact ⟨startD Ng [.ref f], w.at H1, _, rfl, ⟨Kp.refl _, RE.start ⟨_, _, rfl, rfl, rfl⟩, ok1, rfl, rfl⟩, hT f _ _ Q' h, { nx := fun ρ' w' σ' q b a => (kw.back b1) .non w' .non q b rfl, rt := kw.back b1, bk := fun _ _ _ q => q.elim, ct := fun _ _ _ q => q.elim }⟩
  refine wpAny_call (codeAny_mono rc fun r s2 hq => ?_)
  cases r with
  | error e => exact (show False from hq).elim
  | ok fl =>
    cases fl with
    | ret u => exact I1.after hq
    | next => exact False.elim hq
    | brk => exact False.elim hq
    | cont => exact False.elim hq
end
end DL
/-! The data layer, part g: built-in functions, methods of texts, ranges, enumerate, zip. -/
namespace DL
open PySem L2
section
variable {X : Cx} {c : Wd} {e o : Expr} {es : List Expr} {te ta tb to' : DE} {tl : DA} {pos p apos : Pos}
@[simp] def lenD : DC := fun ds M Q => match ds with
  | [.lst _ xs] => Q (.int xs.length) M
  | [.tup xs] => Q (.int xs.length) M
  | [.str z] => z.length ≤ 100000 ∧ Q (.int z.length) M
  | [.ref a] => (match M a with | some (.lst xs) => Q (.int xs.length) M | _ => False)
  | _ => False
theorem one_of {K : PySem.W.Frag} {w : Wd} {d : D} {vs : List V} (r : RpL K w [d] vs) : ∃ v, vs = [v] ∧ Rp K w d v := by
  obtain ⟨x, q, rfl, r1, r2⟩ := r
  obtain rfl : q = [] := r2
  exact ⟨x, rfl, r1⟩
theorem two_of {K : PySem.W.Frag} {w : Wd} {d e : D} {vs : List V} (r : RpL K w [d, e] vs) : ∃ v u, vs = [v, u] ∧ Rp K w d v ∧ Rp K w e u := by
  obtain ⟨x, q, rfl, r1, r2⟩ := r
  obtain ⟨u, rfl, r3⟩ := one_of r2
  exact ⟨x, u, rfl, r1, r3⟩
theorem len_D : CallD X (.builtin "len") lenD := by
  intro pins s σ H vs us Q I rs ⟨w, ds, Q', hH, ok, r, h, k⟩
  subst hH
  match ds, r, h with
  | [d], r, h =>
    obtain ⟨v, rfl, r1⟩ := one_of r
    cases d with
    | lst t xs => obtain ⟨a, ys, rfl, l, s1⟩ := r1; exact call_len pins s σ _ _ us Q I rs ⟨_, ys.length, rfl, .inl ⟨ys, l.sq, rfl⟩, by rw [s1.length]; exact k.here ok h rfl⟩
    | tup xs => obtain ⟨a, ys, rfl, l, s1⟩ := r1; exact call_len pins s σ _ _ us Q I rs ⟨_, ys.length, rfl, .inr ⟨ys, l.sq, rfl⟩, by rw [s1.length]; exact k.here ok h rfl⟩
    | str z => obtain rfl : v = .str z := r1; exact call_len pins s σ _ _ us Q I rs ⟨_, z.length, rfl, ⟨sz h.1, rfl⟩, k.here ok h.2 rfl⟩
    | ref a =>
      obtain rfl : v = .ref a := r1
      cases em : w.M a with
      | none => simp only [lenD, em] at h
      | some m =>
        cases m with
        | lst xs =>
          simp only [lenD, em] at h
          obtain ⟨ys, hx, s1⟩ := (show ∃ ys, w.H a = some (.lst ys) ∧ RpL X.K w xs ys from ok.mo a _ em)
          exact call_len pins s σ _ _ us Q I rs ⟨_, ys.length, rfl, .inl ⟨ys, SqL.of hx, rfl⟩, by rw [s1.length]; exact k.here ok h rfl⟩
        | _ => simp only [lenD, em] at h
    | _ => exact False.elim h
  | [], r, h => exact False.elim h
  | d :: _ :: _, r, h => cases d <;> exact False.elim h
@[simp] def intD : DC := fun ds M Q => match ds with
  | [.int i] => Q (.int i) M
  | [.bl b] => Q (.int (if b then 1 else 0)) M
  | [.str a] => a.length ≤ 640 ∧ ∃ n, PySem.intText? a = some n ∧ Q (.int n) M
  | _ => False
theorem int_D : CallD X (.type "int") intD := by
  intro pins s σ H vs us Q I rs ⟨w, ds, Q', hH, ok, r, h, k⟩
  subst hH
  match ds, r, h with
  | [d], r, h =>
    obtain ⟨v, rfl, r1⟩ := one_of r
    cases d with
    | int i => obtain rfl : v = .int i := r1; exact call_int1 pins s σ _ _ us Q I rs (.inl ⟨i, rfl, k.here ok h rfl⟩)
    | bl b => obtain rfl : v = .bl b := r1; exact call_int1 pins s σ _ _ us Q I rs (.inr ⟨b, rfl, k.here ok h rfl⟩)
    | str a => obtain rfl : v = .str a := r1; obtain ⟨hl, n, hn, h⟩ := h; exact call_int_str pins s σ _ _ us Q I rs ⟨a, n, rfl, hn, hl, k.here ok h rfl⟩
    | _ => exact False.elim h
  | [], r, h => exact False.elim h
  | d :: _ :: _, r, h => cases d <;> exact False.elim h
@[simp] def strD : DC := fun ds M Q => match ds with
  | [.int i] => i.natAbs.log2 < 1920 ∧ Q (.str (toString i)) M
  | _ => False
theorem str_D : CallD X (.type "str") strD := by
  intro pins s σ H vs us Q I rs ⟨w, ds, Q', hH, ok, r, h, k⟩
  subst hH
  match ds, r, h with
  | [d], r, h =>
    obtain ⟨v, rfl, r1⟩ := one_of r
    cases d with
    | int i => obtain rfl : v = .int i := r1; exact call_str_int pins s σ _ _ us Q I rs ⟨i, rfl, h.1, k.here ok h.2 rfl⟩
    | _ => exact False.elim h
  | [], r, h => exact False.elim h
  | d :: _ :: _, r, h => cases d <;> exact False.elim h
@[simp] def tupD : DC := fun ds M Q => match ds with
  | [.lst _ xs] => Q (.tup xs) M
  | [.tup xs] => Q (.tup xs) M
  | _ => False
theorem tup_D : CallD X (.type "tuple") tupD := by
  intro pins s σ H vs us Q I rs ⟨w, ds, Q', hH, ok, r, h, k⟩
  subst hH
  match ds, r, h with
  | [d], r, h =>
    obtain ⟨v, rfl, r1⟩ := one_of r
    cases d with
    | lst t xs => obtain ⟨a, ys, rfl, l, s1⟩ := r1; exact call_tuple_of pins s σ _ _ us Q I rs ⟨a, ys, rfl, .inl ⟨l.sq, fun q hq => k.new ok hq h (rp_tup ok hq s1)⟩⟩
    | tup xs => obtain ⟨a, ys, rfl, l, s1⟩ := r1; exact call_tuple_of pins s σ _ _ us Q I rs ⟨a, ys, rfl, .inr ⟨l.sq, k.here ok h ⟨a, ys, rfl, l, s1⟩⟩⟩
    | _ => exact False.elim h
  | [], r, h => exact False.elim h
  | d :: _ :: _, r, h => cases d <;> exact False.elim h
@[simp] def lstD : DC := fun ds M Q => match ds with
  | [.lst _ xs] => Q (.lst 0 xs) M
  | [.tup xs] => Q (.lst 0 xs) M
  | [.ref a] => (match M a with | some (.lst xs) => Q (.lst 0 xs) M | _ => False)
  | _ => False
theorem lst_D : CallD X (.type "list") lstD := by
  intro pins s σ H vs us Q I rs ⟨w, ds, Q', hH, ok, r, h, k⟩
  subst hH
  match ds, r, h with
  | [d], r, h =>
    obtain ⟨v, rfl, r1⟩ := one_of r
    cases d with
    | lst t xs => obtain ⟨a, ys, rfl, l, s1⟩ := r1; exact call_list_of pins s σ _ _ us Q I rs ⟨a, ys, rfl, .inl l.sq, fun q hq => k.new ok hq h (rp_lst ok hq s1)⟩
    | tup xs => obtain ⟨a, ys, rfl, l, s1⟩ := r1; exact call_list_of pins s σ _ _ us Q I rs ⟨a, ys, rfl, .inr l.sq, fun q hq => k.new ok hq h (rp_lst ok hq s1)⟩
    | ref a =>
      obtain rfl : v = .ref a := r1
      cases em : w.M a with
      | none => simp only [lstD, em] at h
      | some m =>
        cases m with
        | lst xs =>
          simp only [lstD, em] at h
          obtain ⟨ys, hx, s1⟩ := (show ∃ ys, w.H a = some (.lst ys) ∧ RpL X.K w xs ys from ok.mo a _ em)
          exact call_list_of pins s σ _ _ us Q I rs ⟨a, ys, rfl, .inl (SqL.of hx), fun q hq => k.new ok hq h (rp_lst ok hq s1)⟩
        | _ => simp only [lstD, em] at h
    | _ => exact False.elim h
  | [], r, h => exact False.elim h
  | d :: _ :: _, r, h => cases d <;> exact False.elim h
theorem bls_of {K : PySem.W.Frag} {w : Wd} : ∀ {bs : List Bool} {vs : List V}, RpL K w (bs.map D.bl) vs → vs = bs.map V.bl
  | [], vs, r => r
  | b :: bs, vs, r => by
    obtain ⟨x, q, rfl, r1, r2⟩ := r
    rw [bls_of r2, show x = V.bl b from r1]; rfl
@[simp] def allD : DC := fun ds M Q => match ds with
  | [.lst _ xs] => ∃ bs : List Bool, xs = bs.map D.bl ∧ Q (.bl (bs.all id)) M
  | _ => False
@[simp] def anyD : DC := fun ds M Q => match ds with
  | [.lst _ xs] => ∃ bs : List Bool, xs = bs.map D.bl ∧ Q (.bl (bs.any id)) M
  | _ => False
theorem all_D (hc : X.calm = true) : CallD X (.builtin "all") allD := by
  intro pins s σ H vs us Q I rs ⟨w, ds, Q', hH, ok, r, h, k⟩
  subst hH
  match ds, r, h with
  | [d], r, h =>
    obtain ⟨v, rfl, r1⟩ := one_of r
    cases d with
    | lst t xs => obtain ⟨a, ys, rfl, l, s1⟩ := r1; obtain ⟨bs, rfl, h⟩ := h; exact cr_all hc pins s σ _ _ us Q I rs ⟨a, bs, rfl, by rw [← bls_of s1]; exact l.sq, k.here ok h rfl⟩
    | _ => exact False.elim h
  | [], r, h => exact False.elim h
  | d :: _ :: _, r, h => cases d <;> exact False.elim h
theorem any_D (hc : X.calm = true) : CallD X (.builtin "any") anyD := by
  intro pins s σ H vs us Q I rs ⟨w, ds, Q', hH, ok, r, h, k⟩
  subst hH
  match ds, r, h with
  | [d], r, h =>
    obtain ⟨v, rfl, r1⟩ := one_of r
    cases d with
    | lst t xs => obtain ⟨a, ys, rfl, l, s1⟩ := r1; obtain ⟨bs, rfl, h⟩ := h; exact cr_any hc pins s σ _ _ us Q I rs ⟨a, bs, rfl, by rw [← bls_of s1]; exact l.sq, k.here ok h rfl⟩
    | _ => exact False.elim h
  | [], r, h => exact False.elim h
  | d :: _ :: _, r, h => cases d <;> exact False.elim h

/-! ### isinstance, built-in classes -/
def tyN : D → Option String
  | .non => some "NoneType"
  | .bl _ => some "bool"
  | .int _ => some "int"
  | .str _ => some "str"
  | .lst _ _ => some "list"
  | .tup _ => some "tuple"
  | .dct _ => some "dict"
  | _ => none
def tyNames : List String := ["NoneType", "bool", "int", "str", "list", "tuple", "dict"]
def isA (a b : String) : Bool := a == b || (a == "bool" && b == "int")
theorem kit_all : ∀ a ∈ tyNames, ∀ b ∈ tyNames, kitB a b = some (isA a b) := by decide +kernel
def inst (d : D) (n : String) : Bool := match tyN d with | some a => isA a n | none => false
theorem tyN_mem {d : D} {a : String} (h : tyN d = some a) : a ∈ tyNames := by
  cases d <;> simp only [tyN] at h <;> first | (cases h; done) | (obtain rfl := Option.some.inj h; decide)
theorem kit_D {pins : List (Addr × Obj)} {s : Shared} {σ : St} {w : Wd} {d : D} {v : V} {u : Value} {a : String} (I : Inv X pins σ w.H s) (h : tyN d = some a) (r : Rp X.K w d v) (rx : RelV v u) :
    ∃ P : Heap → Prop, PySem.W.KitX X.K u (.type a) P ∧ P s.heap ∧ u ≠ .builtin "__main__.__loader__#opaque" := by
  cases d with
  | non => obtain rfl : v = .non := r; cases h; exact kit_of I rx (.base .non)
  | bl b => obtain rfl : v = .bl b := r; cases h; exact kit_of I rx (.base (.bl b))
  | int b => obtain rfl : v = .int b := r; cases h; exact kit_of I rx (.base (.int b))
  | str b => obtain rfl : v = .str b := r; cases h; exact kit_of I rx (.base (.str b))
  | lst t xs => obtain ⟨p, ys, rfl, l, _⟩ := r; cases h; exact kit_of I rx (.base (.lst l.1))
  | tup xs =>
    obtain ⟨p, ys, rfl, l, _⟩ := r
    cases h
    rcases l with l | l
    · exact kit_of I rx (.base (.tup l.2))
    · rcases l (fun _ => none) with z | ⟨o, its, n, hk, hc, _⟩
      · rcases z with z | ⟨_, z⟩ <;> cases z
      · exact kit_of I rx (.kTuple hk hc)
  | dct kvs =>
    obtain ⟨p, rfl, hm, hl⟩ := r
    cases h
    rcases hl with ⟨ks, ⟨u', e, q⟩, _⟩ | ⟨ks, ⟨u', e, q⟩, _⟩
    · unfold unl at q
      split at q
      · cases q; exact kit_of I rx (.fDict e)
      · cases q
      · subst q; exact kit_of I rx (.base (.dK e))
    · unfold unl at q
      split at q
      · cases q
      · cases q
        rename_i ob
        cases (show u = Value.ref p from rx)
        obtain ⟨_, _, _, xs, _, o, es, ep, h1, h2, _⟩ := (show ObjOk X.prog X.w w.H s.heap p (.frz ob (.dT ks)) from I.hok p _ e)
        exact ⟨_, PySem.W.kitx_dict, ⟨o, h1, h2.1⟩, fun z => nomatch z⟩
      · subst q; exact kit_of I rx (.base (.dT e))
  | _ => cases h
def tyV1 : D → Option String
  | .ty n => some n
  | _ => none
def tysOf : List D → Option (List String)
  | [] => some []
  | .ty n :: r => (tysOf r).map (n :: ·)
  | _ => none
@[simp] def isiD : DC := fun ds M Q => match ds with
  | [x, .ty n] => ((tyN x).isSome = true ∧ n ∈ tyNames) ∧ Q (.bl (inst x n)) M
  | [x, .tup cs] => (match tysOf cs with | some ns => ((tyN x).isSome = true ∧ (∀ n ∈ ns, n ∈ tyNames)) ∧ Q (.bl (ns.any (inst x))) M | none => False)
  | _ => False
theorem tys_vals {K : PySem.W.Frag} {w : Wd} : ∀ {cs : List D} {ns : List String} {vs : List V} {us : List Value}, tysOf cs = some ns → RpL K w cs vs → Vals vs us → us = ns.map Value.type
  | [], ns, vs, us, h, r, q => by
    obtain rfl : vs = [] := r
    cases h; cases q; rfl
  | .ty n :: cs, ns, vs, us, h, r, q => by
    obtain ⟨x, r', rfl, r1, r2⟩ := r
    obtain rfl : x = .ty n := r1
    cases e : tysOf cs with
    | none => simp only [tysOf, e] at h; cases h
    | some ms =>
      simp only [tysOf, e, Option.map_some] at h
      cases h
      cases q with
      | cons q1 q2 =>
        rw [tys_vals e r2 q2]
        cases (show _ = Value.type n from q1)
        rfl
  | .non :: _, _, _, _, h, _, _ => by cases h
  | .bl _ :: _, _, _, _, h, _, _ => by cases h
  | .int _ :: _, _, _, _, h, _, _ => by cases h
  | .str _ :: _, _, _, _, h, _, _ => by cases h
  | .lst _ _ :: _, _, _, _, h, _, _ => by cases h
  | .exc _ _ :: _, _, _, _, h, _, _ => by cases h
  | .cls _ :: _, _, _, _, h, _, _ => by cases h
  | .tup _ :: _, _, _, _, h, _, _ => by cases h
  | .dct _ :: _, _, _, _, h, _, _ => by cases h
  | .obj _ _ :: _, _, _, _, h, _, _ => by cases h
  | .ref _ :: _, _, _, _, h, _, _ => by cases h
  | .scr _ :: _, _, _, _, h, _, _ => by cases h
theorem kit_any {K : PySem.W.Frag} {a : String} (ha : a ∈ tyNames) : ∀ {ns : List String}, (∀ n ∈ ns, n ∈ tyNames) → PySem.W.kitAny K (.type a) (ns.map Value.type) = some (ns.any fun n => isA a n)
  | [], _ => rfl
  | n :: ns, h => by
    refine kitAny_cons (b := isA a n) (kit_ty (kit_all a ha n (h n List.mem_cons_self))) (fun e => ?_) (fun e => ?_)
    · rw [List.any_cons, e, Bool.false_or]; exact kit_any ha fun m hm => h m (List.mem_cons_of_mem _ hm)
    · rw [List.any_cons, e, Bool.true_or]
theorem isi_D : CallD X (.builtin "isinstance") isiD := by
  intro pins s σ H vs us Q I rs ⟨w, ds, Q', hH, ok, r, h, k⟩
  subst hH
  match ds, r, h with
  | [d, t], r, h =>
    obtain ⟨v, v2, rfl, r1, r2⟩ := two_of r
    obtain ⟨u1, u2, rfl, q1, q2⟩ := vals2 rs
    cases t with
    | ty n =>
      obtain rfl : v2 = .ty n := r2
      cases (show u2 = Value.type n from q2)
      obtain ⟨⟨h1, h2⟩, h⟩ := h
      obtain ⟨a, ha⟩ := Option.isSome_iff_exists.mp h1
      obtain ⟨P, Z, pz, hx⟩ := kit_D I ha r1 q1
      refine PySem.W.kia_one (b := isA a n) Z I.kIn pz (kit_ty (kit_all a (tyN_mem ha) n h2)) hx fun tk => ⟨.bl _, _, I.tok tk, rfl, ?_⟩
      have : inst d n = isA a n := by unfold inst; rw [ha]
      rw [← this]; exact k.here ok h rfl
    | tup cs =>
      obtain ⟨tp, xs, rfl, l, s1⟩ := r2
      cases (show u2 = Value.ref tp from q2)
      cases e : tysOf cs with
      | none => simp only [isiD, e] at h
      | some ns =>
        simp only [isiD, e] at h
        obtain ⟨⟨h1, h2⟩, h⟩ := h
        obtain ⟨a, ha⟩ := Option.isSome_iff_exists.mp h1
        obtain ⟨P, Z, pz, hx⟩ := kit_D I ha r1 q1
        obtain ⟨its, rv, ⟨oo, g1, g2, n, g3⟩, hz⟩ := I.tuple l.sq
        have e3 := tys_vals e s1 rv
        subst e3
        obtain ⟨oc, od, dt, sl⟩ := oo
        simp only at g2 g3
        subst g2 g3
        refine PySem.W.kia_tup (b := ns.any fun n => isA a n) Z I.kIn pz g1 (kit_any (tyN_mem ha) h2) hx fun tk => ⟨.bl _, _, I.tok tk, rfl, ?_⟩
        have : (fun n => isA a n) = inst d := by funext n; unfold inst; rw [ha]
        rw [this]; exact k.here ok h rfl
    | _ => exact False.elim h
  | [], r, h => exact False.elim h
  | [_], r, h => exact False.elim h
  | _ :: t :: _ :: _, r, h => cases t <;> exact False.elim h
theorem pd_ty {x : Str} {n : String} (hm : X.mg x = none) (hv : bootBuiltins x = some (.type n)) (hg : Gl X x := by rfl) (hn : x ≠ "__name__" := by decide) (hd : (x == ("__debug__" : Str)) = false := by decide) : PD c X (.Name x pos) (dC (.ty n)) :=
  pd_of (pe_bltn hg hm hv (v := .ty n) rfl hn hd) fun _ => rfl

/-! ### methods of texts with one argument -/
abbrev DM1 := Str → D → Mu → DK → Prop
@[simp] def dM1 (g : DM1) (ta tb : DE) : DE := fun ρ M Q => ta ρ M fun d M1 => match d with | .str a => tb ρ M1 fun y M2 => g a y M2 Q | _ => False
def liftM1 (K : PySem.W.Frag) (g : DM1) : V → List V → Hp → VK → Prop := fun x xs H Q => ∃ w a y v Q', w.H = H ∧ x = .str a ∧ xs = [v] ∧ Ok K w ∧ Rp K w y v ∧ g a y w.M Q' ∧ Wv K w Q' Q
theorem pd_m1 {id : String} {name : Str} {g : DM1} (slot : Slot "str" name id) (ty : typeOf (.builtin id) = pure (.type "method_descriptor")) (rule : MtR X id (liftM1 X.K g)) (ho : PD c X o ta) (he : PD c X e tb)
    (hs : starEach [e] X.env = [(false, eval e X.env)] := by rfl) (hbase : attributeBase o name X.env (eval o X.env) = eval o X.env := by rfl) (hline : (apos.endLine == pos.line) = true := by rfl) :
    PD c X (.Call (.Attribute o name apos) [e] [] pos) (dM1 g ta tb) := PE_imp (pe_m1 slot ty rule ho he hs hbase hline) fun σ H Q ⟨ρ, w, Q', hH, a, h, k⟩ =>
  ⟨ρ, w, _, hH, a, h, fun d w1 v q b1 r => by
    cases d with
    | str z => obtain rfl : v = .str z := r; exact ⟨⟨z, rfl⟩, ρ, w1, _, rfl, a.next b1, q, fun y w2 u q2 b2 r2 => ⟨w2, z, y, u, Q', rfl, rfl, rfl, b2.ok, r2, q2, k.back (b1.trans b2)⟩⟩
    | _ => exact q.elim⟩
@[simp] def joinD : DM1 := fun a y M Q => match y with
  | .lst _ xs => ∃ ys : List Str, xs = ys.map D.str ∧ (ys.map (·.length)).sum + ys.length * a.length ≤ 100000 ∧ Q (.str (Txt.join a ys)) M
  | .tup xs => ∃ ys : List Str, xs = ys.map D.str ∧ (ys.map (·.length)).sum + ys.length * a.length ≤ 100000 ∧ Q (.str (Txt.join a ys)) M
  | _ => False
theorem strs_of {K : PySem.W.Frag} {w : Wd} : ∀ {bs : List Str} {vs : List V}, RpL K w (bs.map D.str) vs → vs = bs.map V.str
  | [], vs, r => r
  | b :: bs, vs, r => by
    obtain ⟨x, q, rfl, r1, r2⟩ := r
    rw [strs_of r2, show x = V.str b from r1]; rfl
theorem join_D : MtR X "str.join" (liftM1 X.K joinD) := by
  intro pins s σ H x xs v us Q I rx rs ⟨w, a, y, vy, Q', hH, e1, e2, ok, r, h, k⟩
  subst hH e1 e2
  cases y with
  | lst t ds => obtain ⟨p, ys, rfl, l, s1⟩ := r; obtain ⟨zs, rfl, hz, h⟩ := h; exact mt_join pins s σ _ _ _ v us Q I rx rs ⟨a, p, zs, rfl, rfl, .inl (by rw [← strs_of s1]; exact l.sq), by omega, k.here ok h rfl⟩
  | tup ds => obtain ⟨p, ys, rfl, l, s1⟩ := r; obtain ⟨zs, rfl, hz, h⟩ := h; exact mt_join pins s σ _ _ _ v us Q I rx rs ⟨a, p, zs, rfl, rfl, .inr (by rw [← strs_of s1]; exact l.sq), by omega, k.here ok h rfl⟩
  | _ => exact False.elim h
theorem pd_join (ho : PD c X o ta) (he : PD c X e tb) (hs : starEach [e] X.env = [(false, eval e X.env)] := by rfl) (hbase : attributeBase o "join" X.env (eval o X.env) = eval o X.env := by rfl) (hline : (apos.endLine == pos.line) = true := by rfl) :
    PD c X (.Call (.Attribute o "join" apos) [e] [] pos) (dM1 joinD ta tb) := pd_m1 F.slot_str_join F.type_str_join join_D ho he hs hbase hline
@[simp] def sindexD : DM1 := fun a y M Q => match y with
  | .str b => (match Builtin.Str.occurrences a b 0 a.length 1 with | i :: _ => Q (.int (i : Nat)) M | [] => False)
  | _ => False
theorem sindex_D : MtR X "str.index" (liftM1 X.K sindexD) := by
  intro pins s σ H x xs v us Q I rx rs ⟨w, a, y, vy, Q', hH, e1, e2, ok, r, h, k⟩
  subst hH e1 e2
  cases y with
  | str b =>
    obtain rfl : vy = .str b := r
    cases e : Builtin.Str.occurrences a b 0 a.length 1 with
    | nil => simp only [sindexD, e] at h
    | cons i rest => simp only [sindexD, e] at h; exact mt_sindex pins s σ _ _ _ v us Q I rx rs ⟨a, b, i, rest, rfl, rfl, e, k.here ok h rfl⟩
  | _ => exact False.elim h
theorem pd_sindex (ho : PD c X o ta) (he : PD c X e tb) (hs : starEach [e] X.env = [(false, eval e X.env)] := by rfl) (hbase : attributeBase o "index" X.env (eval o X.env) = eval o X.env := by rfl) (hline : (apos.endLine == pos.line) = true := by rfl) :
    PD c X (.Call (.Attribute o "index" apos) [e] [] pos) (dM1 sindexD ta tb) := pd_m1 F.slot_str_index F.type_str_index sindex_D ho he hs hbase hline

/-! ### ranges, enumerate, zip -/
def rngD (lo : Int) (n : Nat) : List D := (List.range n).map fun (i : Nat) => .int (lo + i)
@[simp] def dRng1 (ta : DA) : DI := fun ρ M Q => ta ρ M fun ds M1 => match ds with | [.int j] => (-100000 ≤ j ∧ j ≤ 100000) ∧ Q (rngD 0 j.toNat) M1 | _ => False
theorem pdi_range1 {tg : Expr} (hm : X.mg "range" = none) (ha : PDA c X [e] tl) (hg : Gl X "range" := by rfl) (hs : starEach [e] X.env = [(false, eval e X.env)] := by rfl) : PDI c X tg (.Call (.Name "range" p) [e] [] pos) (dRng1 tl) :=
  PI_imp (pi_range1 hg hm ha hs) fun σ H R ⟨ρ, w, Q', hH, a, h, k⟩ => ⟨ρ, w, _, hH, a, h, fun ds w1 vs q b r => by
    match ds, r, q with
    | [d], r, q =>
      obtain ⟨v, rfl, r1⟩ := one_of r
      cases d with
      | int j => obtain rfl : v = .int j := r1; exact ⟨j, rfl, by omega, by omega, k _ w1 _ q.2 b isIt_r⟩
      | _ => exact q.elim
    | [], r, q => exact False.elim q
    | d :: _ :: _, r, q => cases d <;> exact False.elim q⟩
def zipD (xs ys : List D) : List D := (xs.zip ys).map fun p => .tup [p.1, p.2]
theorem zip_at {xs ys : List D} {i : Nat} {d : D} (h : (zipD xs ys)[i]? = some d) : ∃ x y, xs[i]? = some x ∧ ys[i]? = some y ∧ d = .tup [x, y] := by
  unfold zipD at h
  rw [List.getElem?_map] at h
  cases e : (xs.zip ys)[i]? with
  | none => rw [e] at h; cases h
  | some q =>
    rw [e] at h
    obtain ⟨h1, h2⟩ := List.getElem?_zip_eq_some.mp e
    exact ⟨q.1, q.2, h1, h2, (Option.some.inj h).symm⟩
theorem isIt_zl {K : PySem.W.Frag} {w : Wd} {ds es : List D} {t t2 : Nat} {a b : Addr} {xs ys : List V} (h : LsAt w t a xs) (h2 : LsAt w t2 b ys) (r : RpL K w ds xs) (r2 : RpL K w es ys) : IsIt K w (zipD ds es) (Itz K a b) := fun w' k ok => by
  have ha := k.lst h
  have hb := k.lst h2
  have r' := r.mono k
  have r2' := r2.mono k
  have hl := r'.length
  have hl2 := r2'.length
  refine ⟨fun i d e => ?_, ⟨xs, ys, ha.sq, hb.sq, ?_⟩⟩
  · obtain ⟨x, y, e1, e2, rfl⟩ := zip_at e
    obtain ⟨v, f1, q1⟩ := r'.at e1
    obtain ⟨u, f2, q2⟩ := r2'.at e2
    refine ⟨⟨xs, ys, v, u, ha.sq, hb.sq, f1, f2⟩, fun z H'' yl => ?_⟩
    obtain ⟨T, v', u', rfl, hT, rfl, y1, y2⟩ := yl
    have z1 := y1 xs ha.sq
    have z2 := y2 ys hb.sq
    rw [f1] at z1; rw [f2] at z2
    cases z1; cases z2
    exact ⟨Bh.new ok hT, rp_tup ok hT ⟨v, [u], rfl, q1, u, [], rfl, q2, rfl⟩⟩
  · unfold zipD
    rw [List.length_map, List.length_zip]; omega
theorem isIt_zt {K : PySem.W.Frag} {w : Wd} {ds es : List D} {a b : Addr} {xs ys : List V} (h : TuAt K w a xs) (h2 : TuAt K w b ys) (r : RpL K w ds xs) (r2 : RpL K w es ys) : IsIt K w (zipD ds es) (RZ.ItzT K a b) := fun w' k ok => by
  have ha := k.tup h
  have hb := k.tup h2
  have r' := r.mono k
  have r2' := r2.mono k
  have hl := r'.length
  have hl2 := r2'.length
  refine ⟨fun i d e => ?_, ⟨xs, ys, ha.sq, hb.sq, ?_⟩⟩
  · obtain ⟨x, y, e1, e2, rfl⟩ := zip_at e
    obtain ⟨v, f1, q1⟩ := r'.at e1
    obtain ⟨u, f2, q2⟩ := r2'.at e2
    refine ⟨⟨xs, ys, v, u, ha.sq, hb.sq, f1, f2⟩, fun z H'' yl => ?_⟩
    obtain ⟨T, v', u', rfl, hT, rfl, y1, y2⟩ := yl
    have z1 := y1 xs ha.sq
    have z2 := y2 ys hb.sq
    rw [f1] at z1; rw [f2] at z2
    cases z1; cases z2
    exact ⟨Bh.new ok hT, rp_tup ok hT ⟨v, [u], rfl, q1, u, [], rfl, q2, rfl⟩⟩
  · unfold zipD
    rw [List.length_map, List.length_zip]; omega
@[simp] def dZip (ta : DA) : DI := fun ρ M Q => ta ρ M fun ds M1 => match ds with
  | [.lst _ xs, .lst _ ys] => Q (zipD xs ys) M1
  | [.tup xs, .tup ys] => Q (zipD xs ys) M1
  | _ => False
theorem pdi_zip {e2 : Expr} {elts : List Expr} {kk : Nat} {tpos : Pos} (hm : X.mg "zip" = none) (ha : PDA c X [e, e2] tl) (hg : Gl X "zip" := by rfl) (hs : starEach [e, e2] X.env = (false, eval e X.env) :: starEach [e2] X.env := by rfl) (hpl : (backTo pos (starEach [e2] X.env)).any (·.1) = false := by rfl) :
    PDI c X (.Tuple elts kk tpos) (.Call (.Name "zip" p) [e, e2] [] pos) (dZip tl) :=
  PI_imp (RZ.pi_zipA hg hm ha hs hpl) fun σ H R ⟨ρ, w, Q', hH, a, h, k⟩ => ⟨ρ, w, _, hH, a, h, fun ds w1 vs q b r => by
    match ds, r, q with
    | [d, d2], r, q =>
      obtain ⟨v, u, rfl, r1, r2⟩ := two_of r
      cases d with
      | lst t xs => cases d2 with
        | lst ys =>
          obtain ⟨pa, as, rfl, l1, s1⟩ := r1
          obtain ⟨pb, bs, rfl, l2, s2⟩ := r2
          exact ⟨pa, pb, as, bs, rfl, .inl ⟨l1.sq, l2.sq, k _ w1 _ q b (isIt_zl l1 l2 s1 s2)⟩⟩
        | _ => exact q.elim
      | tup xs => cases d2 with
        | tup ys =>
          obtain ⟨pa, as, rfl, l1, s1⟩ := r1
          obtain ⟨pb, bs, rfl, l2, s2⟩ := r2
          exact ⟨pa, pb, as, bs, rfl, .inr ⟨l1.sq, l2.sq, k _ w1 _ q b (isIt_zt l1 l2 s1 s2)⟩⟩
        | _ => exact q.elim
      | _ => exact q.elim
    | [], r, q => exact False.elim q
    | [d], r, q => cases d <;> exact False.elim q
    | d :: d2 :: _ :: _, r, q => cases d <;> cases d2 <;> exact False.elim q⟩
def enumD (i : Nat) : List D → List D
  | [] => []
  | x :: xs => .tup [.int i, x] :: enumD (i + 1) xs
theorem enum_at : ∀ {xs : List D} {j i : Nat} {d : D}, (enumD j xs)[i]? = some d → ∃ x, xs[i]? = some x ∧ d = .tup [.int ((j + i : Nat)), x]
  | [], j, i, d, h => by simp [enumD] at h
  | x :: xs, j, 0, d, h => by
    simp only [enumD, List.getElem?_cons_zero, Option.some.injEq] at h
    exact ⟨x, rfl, h.symm⟩
  | x :: xs, j, i + 1, d, h => by
    simp only [enumD, List.getElem?_cons_succ] at h
    obtain ⟨y, h1, h2⟩ := enum_at (j := j + 1) h
    exact ⟨y, by simpa using h1, by rw [h2]; congr 3; omega⟩
theorem enum_len : ∀ (xs : List D) (j : Nat), (enumD j xs).length = xs.length
  | [], _ => rfl
  | x :: xs, j => by simp [enumD, enum_len xs]
theorem isIt_en {K : PySem.W.Frag} {w : Wd} {ds : List D} {t : Nat} {a : Addr} {xs : List V} (h : LsAt w t a xs) (r : RpL K w ds xs) : IsIt K w (enumD 0 ds) (Ite K a) := fun w' k ok => by
  have ha := k.lst h
  have r' := r.mono k
  have hl := r'.length
  refine ⟨fun i d e => ?_, ⟨xs, ha.sq, by rw [enum_len]; omega⟩⟩
  obtain ⟨x, e1, rfl⟩ := enum_at e
  obtain ⟨v, f1, q1⟩ := r'.at e1
  refine ⟨⟨xs, v, ha.sq, f1⟩, fun z H'' yl => ?_⟩
  obtain ⟨T, v', rfl, hT, rfl, y1⟩ := yl
  have z1 := y1 xs ha.sq
  rw [f1] at z1
  cases z1
  refine ⟨Bh.new ok hT, rp_tup ok hT ⟨.int (i : Nat), [v], rfl, ?_, v, [], rfl, q1, rfl⟩⟩
  show V.int _ = V.int _
  rw [Nat.zero_add]
@[simp] def dEnum (ta : DA) : DI := fun ρ M Q => ta ρ M fun ds M1 => match ds with
  | [.lst _ xs] => Q (enumD 0 xs) M1
  | _ => False
theorem pdi_enum {elts : List Expr} {kk : Nat} {tpos : Pos} (hm : X.mg "enumerate" = none) (ha : PDA c X [e] tl) (hg : Gl X "enumerate" := by rfl) (hs : starEach [e] X.env = [(false, eval e X.env)] := by rfl) :
    PDI c X (.Tuple elts kk tpos) (.Call (.Name "enumerate" p) [e] [] pos) (dEnum tl) :=
  PI_imp (pi_enum hg hm ha hs) fun σ H R ⟨ρ, w, Q', hH, a, h, k⟩ => ⟨ρ, w, _, hH, a, h, fun ds w1 vs q b r => by
    match ds, r, q with
    | [d], r, q =>
      obtain ⟨v, rfl, r1⟩ := one_of r
      cases d with
      | lst t xs => obtain ⟨pa, as, rfl, l1, s1⟩ := r1; exact ⟨pa, as, rfl, l1.sq, k _ w1 _ q b (isIt_en l1 s1)⟩
      | _ => exact q.elim
    | [], r, q => exact False.elim q
    | d :: _ :: _, r, q => cases d <;> exact False.elim q⟩
end
end DL
/-! The data layer, part h: owned lists, a law's bag and its draws. -/
namespace DL
open PySem L2
def setM (M : Mu) (a : Addr) (m : MO) : Mu := fun b => if b = a then some m else M b
theorem setM_same {M : Mu} {a : Addr} {m : MO} : setM M a m a = some m := by unfold setM; rw [if_pos rfl]
theorem setM_ne {M : Mu} {a b : Addr} {m : MO} (h : b ≠ a) : setM M a m b = M b := by unfold setM; rw [if_neg h]
theorem setM_set {M : Mu} {a : Addr} {m n : MO} : setM (setM M a m) a n = setM M a n := by funext b; unfold setM; split <;> rfl
section
variable {K : PySem.W.Frag} {w : Wd} {a : Addr} {m : MO} {u : HO}
/-- an owned object changes -/
theorem Bh.own {m' : MO} (ok : Ok K w) (h : w.M a = some m) (hm : ∀ w', w'.H a = some u → Kp w w' → MOk K w' a m') : Bh K w { w with M := setM w.M a m', H := upd w.H a u } := by
  have hd := ok.ap a m h
  have hln : ∀ r b v, w.ln r b = some v → b ≠ a := fun r b v e z => by subst z; rw [(ok.lap r b v e).1] at h; cases h
  have kp : Kp w { w with M := setM w.M a m', H := upd w.H a u } := Kp.of (fun b v hf e _ => by
    have hne : b ≠ a := fun z => by subst z; have := hf.m; rw [h] at this; cases this
    exact ⟨⟨by show setM w.M a m' b = none; rw [setM_ne hne]; exact hf.m, hf.h, hf.l⟩, by show upd w.H a u b = _; rw [upd_ne hne]; exact e⟩) (fun r b v e => ⟨e, fun q => by show upd w.H a u b = _; rw [upd_ne (hln r b v e)]; exact q⟩) rfl rfl rfl
  obtain ⟨u0, e0, n1, n2⟩ := ok.plain h
  refine ⟨kp, ⟨fun b n e => ?_, fun b v e => ?_, fun b n e => ?_, fun r b v e => ?_, fun r b v e => ⟨?_, (ok.lap r b v e).2⟩, ok.lfr, ok.hl, ok.ll, tabs_upd ok.tabs e0 n1 n2⟩, rfl, rfl⟩
  · by_cases hb : b = a
    · subst hb
      have : m' = n := by have := (setM_same (M := w.M) (a := b) (m := m')).symm.trans e; exact Option.some.inj this
      subst this
      exact hm _ upd_same kp
    · have e' : w.M b = some n := by rw [← e]; exact (setM_ne hb).symm
      exact (ok.mo b n e').mono kp (by show upd w.H a u b = _; rw [upd_ne hb])
  · have hne : b ≠ a := fun z => by subst z; have e' : w.hd b = some v := e; rw [hd] at e'; cases e'
    show upd w.H a u b = _; rw [upd_ne hne]; exact ok.hid b v e
  · by_cases hb : b = a
    · subst hb; exact hd
    · have e' : w.M b = some n := by rw [← e]; exact (setM_ne hb).symm
      exact ok.ap b n e'
  · show upd w.H a u b = _; rw [upd_ne (hln r b v e)]; exact ok.len r b v e
  · show setM w.M a m' b = none; rw [setM_ne (hln r b v e)]; exact (ok.lap r b v e).1
/-- a new owned object -/
theorem Bh.newOwn {m' : MO} (ok : Ok K w) (h : w.H a = none) (hm : ∀ w', w'.H a = some u → Kp w w' → MOk K w' a m') : Bh K w { w with M := setM w.M a m', H := upd w.H a u } := by
  have hf := ok.fresh h
  have hln : ∀ r b v, w.ln r b = some v → b ≠ a := fun r b v e z => by subst z; rw [ok.len r b v e] at h; cases h
  have kp : Kp w { w with M := setM w.M a m', H := upd w.H a u } := Kp.of (fun b v hf e _ => by
    have hne : b ≠ a := ne_of_none e h
    exact ⟨⟨by show setM w.M a m' b = none; rw [setM_ne hne]; exact hf.m, hf.h, hf.l⟩, by show upd w.H a u b = _; rw [upd_ne hne]; exact e⟩) (fun r b v e => ⟨e, fun q => by show upd w.H a u b = _; rw [upd_ne (hln r b v e)]; exact q⟩) rfl rfl rfl
  refine ⟨kp, ⟨fun b n e => ?_, fun b v e => ?_, fun b n e => ?_, fun r b v e => ?_, fun r b v e => ⟨?_, (ok.lap r b v e).2⟩, ok.lfr, ok.hl, ok.ll, ok.tabs.ext fun b v q => by show upd w.H a u b = _; rw [upd_ne (ne_of_none q h)]; exact q⟩, rfl, rfl⟩
  · by_cases hb : b = a
    · subst hb
      have : m' = n := by have := (setM_same (M := w.M) (a := b) (m := m')).symm.trans e; exact Option.some.inj this
      subst this
      exact hm _ upd_same kp
    · have e' : w.M b = some n := by rw [← e]; exact (setM_ne hb).symm
      exact (ok.mo b n e').mono kp (by show upd w.H a u b = _; rw [upd_ne hb])
  · have hne : b ≠ a := fun z => by subst z; have e' : w.hd b = some v := e; rw [hf.h] at e'; cases e'
    show upd w.H a u b = _; rw [upd_ne hne]; exact ok.hid b v e
  · by_cases hb : b = a
    · subst hb; exact hf.h
    · have e' : w.M b = some n := by rw [← e]; exact (setM_ne hb).symm
      exact ok.ap b n e'
  · show upd w.H a u b = _; rw [upd_ne (hln r b v e)]; exact ok.len r b v e
  · show setM w.M a m' b = none; rw [setM_ne (hln r b v e)]; exact (ok.lap r b v e).1
end
theorem RpL.set {K : PySem.W.Frag} {w : Wd} {d : D} {v : V} (h : Rp K w d v) : ∀ {ds : List D} {vs : List V} (j : Nat), RpL K w ds vs → RpL K w (ds.set j d) (vs.set j v)
  | [], vs, j, r => by obtain rfl : vs = [] := r; exact rfl
  | e :: ds, vs, 0, r => by
    obtain ⟨x, q, rfl, r1, r2⟩ := r
    exact ⟨v, q, rfl, h, r2⟩
  | e :: ds, vs, j + 1, r => by
    obtain ⟨x, q, rfl, r1, r2⟩ := r
    exact ⟨x, q.set j v, rfl, r1, RpL.set h j r2⟩
section
variable {X : Cx} {c : Wd} {e o i : Expr} {es : List Expr} {te ta tb to' : DE} {tl : DA} {pos p apos : Pos} {vs : List Nat}
/-- [..]: a list that stays owned -/
@[simp] def dLstO (t : DA) : DE := fun ρ M Q => t ρ M fun ds M1 => ds.length ≤ 100000 ∧ ∀ a, M1 a = none → Q (.ref a) (setM M1 a (.lst ds))
theorem pd_lstO (h : PDA c X es tl) : PD c X (.List es pos) (dLstO tl) := PE_imp (pe_lst h) fun σ H Q ⟨ρ, w, Q', hH, a, h, k⟩ =>
  ⟨ρ, w, _, hH, a, h, fun ds w1 us q b1 r => ⟨sz (by rw [r.length]; exact q.1), fun p hp => k (.ref p) { w1 with M := setM w1.M p (.lst ds), H := upd w1.H p (.lst us) } (.ref p) (q.2 p (b1.ok.fresh hp).m)
    (b1.trans (Bh.newOwn b1.ok hp fun w' e k' => ⟨us, e, r.mono k'⟩)) rfl⟩⟩
/-- [cells, 0, 0, mark]: a bag -/
@[simp] def dBag (t : DA) : DE := fun ρ M Q => t ρ M fun ds M1 => (∃ (cs : List Int) (i r m : Int), ds = [.lst 0 (cs.map D.int), .int i, .int r, .int m] ∧ cs.length ≤ 63 ∧ 0 ≤ i) ∧ ∀ a, M1 a = none → Q (.ref a) (setM M1 a .bag)
theorem ints_of {K : PySem.W.Frag} {w : Wd} : ∀ {bs : List Int} {vs : List V}, RpL K w (bs.map D.int) vs → vs = bs.map V.int
  | [], vs, r => r
  | b :: bs, vs, r => by
    obtain ⟨x, q, rfl, r1, r2⟩ := r
    rw [ints_of r2, show x = V.int b from r1]; rfl
theorem bag_of {K : PySem.W.Frag} {w : Wd} {a : Addr} {cs : List Int} {i r m : Int} {us : List V} (e : w.H a = some (.lst us)) (h : RpL K w [.lst 0 (cs.map D.int), .int i, .int r, .int m] us) (hl : cs.length ≤ 63) (hi : 0 ≤ i) : BagAt w a := by
  obtain ⟨v1, q1, rfl, r1, v2, q2, rfl, r2, v3, q3, rfl, r3, v4, q4, rfl, r4, r5⟩ := h
  obtain ⟨cp, xs, rfl, l, s1⟩ := r1
  obtain rfl : v2 = .int i := r2
  obtain rfl : v3 = .int r := r3
  obtain rfl : v4 = .int m := r4
  obtain rfl : q4 = [] := r5
  exact ⟨cp, cs, i, r, m, e, by rw [← ints_of s1]; exact l, hl, hi⟩
theorem pd_bag (h : PDA c X es tl) : PD c X (.List es pos) (dBag tl) := PE_imp (pe_lst h) fun σ H Q ⟨ρ, w, Q', hH, a, h, k⟩ =>
  ⟨ρ, w, _, hH, a, h, fun ds w1 us q b1 r => by
    obtain ⟨⟨cs, i, rr, m, rfl, hl, hi⟩, q⟩ := q
    exact ⟨sz (by rw [r.length]; show 4 ≤ 100000; decide), fun p hp => k (.ref p) { w1 with M := setM w1.M p .bag, H := upd w1.H p (.lst us) } (.ref p) (q p (b1.ok.fresh hp).m)
      (b1.trans (Bh.newOwn b1.ok hp fun w' e k' => bag_of e (r.mono k') hl hi)) rfl⟩⟩
/-- o[i] = .., an owned list -/
@[simp] def gIx (to ti : DE) : DG := fun d ρ M Q => to ρ M fun x M1 => ti ρ M1 fun y M2 => match x, y with
  | .ref a, .int z => (match M2 a with | some (.lst ds) => (match ixN ds.length z with | some j => Q ρ (setM M2 a (.lst (ds.set j d))) | none => False) | _ => False)
  | _, _ => False
theorem pdg_ix {to ti : DE} (ho : PD c X o to) (hi : PD c X i ti)
    (ha : ∀ v, assign (.Subscript o i pos) X.env v = (do
      let ov ← holding [v] (eval o X.env)
      let iv ← holding [v, ov] (eval i X.env)
      standAt pos
      holding [v, ov, iv] (setItem ov iv v)
      release [v, ov, iv] []) := by intro _; rfl) : PDG c X vs (.Subscript o i pos) (gIx to ti) :=
  PG_imp (pg_sub ho hi set_list ha) fun v σ H Q ⟨d, ρ, w, Q', hH, a, r, h, k⟩ => ⟨ρ, w, _, hH, a, h, fun x w1 vx q b1 r1 => ⟨ρ, w1, _, rfl, a.next b1, q, fun y w2 vy q2 b2 r2 => by
    cases x with
    | ref ad =>
      cases y with
      | int z =>
        obtain rfl : vx = .ref ad := r1
        obtain rfl : vy = .int z := r2
        cases em : w2.M ad with
        | none => simp only [em] at q2
        | some m =>
          cases m with
          | lst ds =>
            simp only [em] at q2
            cases ej : ixN ds.length z with
            | none => simp only [ej] at q2
            | some j =>
              simp only [ej] at q2
              obtain ⟨xs, hx, s1⟩ := (show ∃ xs, w2.H ad = some (.lst xs) ∧ RpL X.K w2 ds xs from b2.ok.mo ad _ em)
              have b3 : Bh X.K w2 { w2 with M := setM w2.M ad (.lst (ds.set j d)), H := upd w2.H ad (.lst (xs.set j v)) } := Bh.own b2.ok em fun w' e k' => ⟨_, e, RpL.set (((r.mono b1.kp).mono b2.kp).mono k') j (s1.mono k')⟩
              exact ⟨ad, xs, z, j, rfl, rfl, hx, by rw [s1.length]; exact ej, k ρ { w2 with M := setM w2.M ad (.lst (ds.set j d)), H := upd w2.H ad (.lst (xs.set j v)) } σ q2 ((b1.trans b2).trans b3) (((a.next b1).next b2).next b3) (Ag.refl _ _)⟩
          | _ => simp only [em] at q2
      | _ => exact q2.elim
    | _ => exact q2.elim⟩⟩
/-- a, b = e1, e2 (two names) -/
theorem pds_par {x y : Str} {j l : Nat} {px py tp vp : Pos} {x1 x2 : Nat} {e1 e2 : Expr} (hN : X.N.Nodup) (ha : PDA c X [e1, e2] tl) (h : PS X (.Assign [.Tuple [.Name x px, .Name y py] x1 tp] (.Tuple [e1, e2] x2 vp) pos) (tPar j l (liftA X.K c tl))) :
    PDS c X (.Assign [.Tuple [.Name x px, .Name y py] x1 tp] (.Tuple [e1, e2] x2 vp) pos) (dPar j l tl) := PS_imp h fun D σ H ⟨ρ, w, D', hH, a, h, k⟩ => ⟨ρ, w, _, hH, a, h, fun ds w1 us q b r => by
    match ds, r, q with
    | [d1, d2], r, q =>
      obtain ⟨v1, v2, rfl, r1, r2⟩ := two_of r
      exact ⟨v1, v2, rfl, k.nx _ w1 _ q b (((a.next b).set r1).set r2)⟩
    | [], r, q => exact False.elim q
    | [_], r, q => exact False.elim q
    | _ :: _ :: _ :: _, r, q => exact False.elim q⟩
end

/-! ### the bag, opened for its own def alone -/
/-- a promise that speaks of the bag as an owned list gives one that keeps it shut -/
theorem open_bag {K : PySem.W.Frag} {cl : Str → Addr} {tb : List (Addr × Str)} {s' s : DSp} {vs : List V} {H : Hp} {Q : VK} {E : XK}
    (hs : ∀ ds M Q' E', s ds M Q' E' → ∃ b, M b = some .bag ∧ ∀ (cs : List Int) (i r m : Int), cs.length ≤ 63 → 0 ≤ i →
      s' ds (setM M b (.lst [.lst 0 (cs.map D.int), .int i, .int r, .int m])) (fun d M' => (∃ (i' r' m' : Int), 0 ≤ i' ∧ M' = setM M b (.lst [.lst 0 (cs.map D.int), .int i', .int r', .int m'])) ∧ Q' d M) DX0)
    (h : upX K cl tb s vs H Q E) : upX K cl tb s' vs H Q E := by
  obtain ⟨w, ds, Q', E', hH, hcc, ok, r, h, k, kx⟩ := h
  obtain ⟨b, hb, hs⟩ := hs ds _ _ _ h
  obtain ⟨cp, cs, i, rr, m, e, l, hl, hi⟩ := (show BagAt w b from ok.mo b _ hb)
  have hs := hs cs i rr m hl hi
  let D0 : List D := [.lst 0 (cs.map D.int), .int i, .int rr, .int m]
  let w' : Wd := { w with M := setM w.M b (.lst D0) }
  have fr : ∀ x, Fr w x ↔ Fr w' x := fun x => by
    by_cases hx : x = b
    · subst hx
      constructor
      · intro z; have := z.m; rw [hb] at this; cases this
      · intro z; have := z.m; rw [show w'.M x = some (.lst D0) from setM_same] at this; cases this
    · exact ⟨fun z => ⟨(setM_ne hx).trans z.m, z.h, z.l⟩, fun z => ⟨(setM_ne hx).symm.trans z.m, z.h, z.l⟩⟩
  have kp : Kp w w' := Kp.of (fun x u hf e _ => ⟨(fr x).mp hf, e⟩) (fun _ _ _ e => ⟨e, id⟩) rfl rfl rfl
  have rD : RpL K w' D0 [.ref cp, .int i, .int rr, .int m] := ⟨_, _, rfl, ⟨cp, cs.map V.int, rfl, kp.lst l, ints_rp cs⟩, _, _, rfl, rfl, _, _, rfl, rfl, _, _, rfl, rfl, rfl⟩
  have ok' : Ok K w' := ⟨fun x n q => by
      by_cases hx : x = b
      · subst hx
        have : n = .lst D0 := Option.some.inj (q.symm.trans setM_same)
        subst this
        exact ⟨_, e, rD⟩
      · have q' : w.M x = some n := by rw [← q]; exact (setM_ne hx).symm
        exact (ok.mo x n q').mono kp rfl, ok.hid, fun x n q => by
      by_cases hx : x = b
      · subst hx; exact ok.ap x _ hb
      · have q' : w.M x = some n := by rw [← q]; exact (setM_ne hx).symm
        exact ok.ap x n q', ok.len, fun r x u q => ⟨by
      have hx : x ≠ b := fun z => by subst z; rw [(ok.lap r x u q).1] at hb; cases hb
      exact (setM_ne hx).trans (ok.lap r x u q).1, (ok.lap r x u q).2⟩, ok.lfr, ok.hl, ok.ll, ok.tabs⟩
  refine ⟨w', ds, _, DX0, hH, ⟨hcc.cl, hcc.ex, hcc.tb⟩, ok', r.mono kp, hs, fun d w2 v q b2 rv => ?_, fun _ _ _ _ _ z => z.elim⟩
  obtain ⟨⟨i', r', m', hi', hM⟩, q⟩ := q
  -- the bag is shut again
  let w3 : Wd := { w2 with M := w.M }
  have fr3 : ∀ x, Fr w2 x ↔ Fr w3 x := fun x => by
    by_cases hx : x = b
    · subst hx
      constructor
      · intro z; have z1 := z.m; rw [hM, setM_same] at z1; cases z1
      · intro z; have z1 : w.M x = none := z.m; rw [hb] at z1; cases z1
    · have e : w2.M x = w.M x := by rw [hM]; exact setM_ne hx
      exact ⟨fun z => ⟨e.symm.trans z.m, z.h, z.l⟩, fun z => ⟨e.trans z.m, z.h, z.l⟩⟩
  have kp3 : Kp w2 w3 := Kp.of (fun x u hf e _ => ⟨(fr3 x).mp hf, e⟩) (fun _ _ _ e => ⟨e, id⟩) rfl rfl rfl
  have ok3 : Ok K w3 := ⟨fun x n q => by
      by_cases hx : x = b
      · subst hx
        have : n = .bag := by have q' : w.M x = some n := q; rw [hb] at q'; exact (Option.some.inj q').symm
        subst this
        obtain ⟨us, e1, s1⟩ := (show ∃ us, w2.H x = some (.lst us) ∧ RpL K w2 [.lst 0 (cs.map D.int), .int i', .int r', .int m'] us from b2.ok.mo x (.lst [.lst 0 (cs.map D.int), .int i', .int r', .int m']) (by rw [hM]; exact setM_same))
        exact bag_of (w := w3) e1 (s1.mono kp3) hl hi'
      · have q' : w2.M x = some n := by rw [hM, setM_ne hx]; exact q
        exact (b2.ok.mo x n q').mono kp3 rfl, b2.ok.hid, fun x n q => by
      have z : w2.hd = w.hd := b2.hd
      show w2.hd x = none
      rw [z]; exact ok.ap x n q, b2.ok.len, fun r x u q => ⟨by
      have z : w2.ln = w.ln := b2.ln
      have q' : w.ln r x = some u := by rw [← z]; exact q
      exact (ok.lap r x u q').1, (b2.ok.lap r x u q).2⟩, b2.ok.lfr, b2.ok.hl, b2.ok.ll, b2.ok.tabs⟩
  exact k d w3 v q ⟨(kp.trans b2.kp).trans kp3, ok3, b2.hd, b2.ln⟩ (rv.mono kp3)
end DL
/-! The data layer, part i: globals, negative numbers, plain lemmas. -/
namespace DL
open PySem L2 LamX
section
variable {X : Cx} {c : Wd} {e : Expr} {te : DE} {pos : Pos} {x : Str}
theorem pd_globI {i : Int} (h : ∃ t, X.mg x = some (.int i t)) (hg : Gl X x := by rfl) (hd : (x == ("__debug__" : Str)) = false := by decide) : PD c X (.Name x pos) (dC (.int i)) := by
  obtain ⟨t, h⟩ := h
  exact pd_glob hg h (v := .int i) ⟨t, rfl⟩ (fun _ => rfl) hd
theorem pd_globS {z : Str} (h : ∃ t, X.mg x = some (.str z t)) (hg : Gl X x := by rfl) (hd : (x == ("__debug__" : Str)) = false := by decide) : PD c X (.Name x pos) (dC (.str z)) := by
  obtain ⟨t, h⟩ := h
  exact pd_glob hg h (v := .str z) ⟨t, rfl⟩ (fun _ => rfl) hd
@[simp] def dNeg (t : DE) : DE := fun ρ M Q => t ρ M fun d M1 => match d with | .int i => Q (.int (-i)) M1 | _ => False
theorem neg_D : UnR X (unaryOp .USub) (fun x H Q => ∃ w d Q', w.H = H ∧ Ok X.K w ∧ Rp X.K w d x ∧ (match d with | .int i => Q' (.int (-i)) w.M | _ => False) ∧ Wv X.K w Q' Q) := by
  intro pins s σ H x v Q I rx ⟨w, d, Q', hH, ok, r, h, k⟩
  subst hH
  cases d with
  | int i => obtain rfl : x = .int i := r; exact un_neg pins s σ _ _ v Q I rx ⟨i, rfl, k.here ok h rfl⟩
  | _ => exact False.elim h
theorem pd_neg (h : PD c X e te) : PD c X (.UnaryOp .USub e pos) (dNeg te) := PE_imp (pe_un neg_D h) fun σ H Q ⟨ρ, w, Q', hH, a, h, k⟩ =>
  ⟨ρ, w, _, hH, a, h, fun d w1 v q b r => ⟨w1, d, Q', rfl, b.ok, r, q, k.back b⟩⟩
end
/-! ### plain data of bounded size -/
def gd : Nat → D → Bool
  | _, .non => true
  | _, .bl _ => true
  | _, .int _ => true
  | _, .str x => PyData.strOk x && decide (x.length ≤ 50000)
  | n + 1, .lst _ xs => decide (xs.length ≤ 50000) && xs.all (gd n)
  | n + 1, .tup xs => decide (xs.length ≤ 50000) && xs.all (gd n)
  | _, _ => false
theorem gd_ty {n : Nat} {d : D} (h : gd n d = true) : (tyN d).isSome = true := by
  cases d <;> first | rfl | (cases n <;> exact Bool.noConfusion (show false = true from h))
theorem gd_str {n : Nat} {z : Str} (h : gd n (.str z) = true) : PyData.strOk z = true ∧ z.length ≤ 50000 := by
  cases n <;> simpa [gd] using h
theorem gd_tup {n : Nat} {xs : List D} (h : gd (n + 1) (.tup xs) = true) : xs.length ≤ 50000 ∧ ∀ x ∈ xs, gd n x = true := by
  simpa [gd] using h
theorem gd_lst {n r : Nat} {xs : List D} (h : gd (n + 1) (.lst r xs) = true) : xs.length ≤ 50000 ∧ ∀ x ∈ xs, gd n x = true := by
  simpa [gd] using h
theorem gd_mono : ∀ {n : Nat} {d : D}, gd n d = true → gd (n + 1) d = true
  | n, .non, _ => rfl
  | n, .bl _, _ => rfl
  | n, .int _, _ => rfl
  | n, .str z, h => by cases n <;> simpa [gd] using h
  | 0, .lst _ xs, h => by simp [gd] at h
  | n + 1, .lst _ xs, h => by
    obtain ⟨h1, h2⟩ := gd_lst h
    simp only [gd, Bool.and_eq_true, decide_eq_true_eq, List.all_eq_true]
    exact ⟨h1, fun x hx => gd_mono (h2 x hx)⟩
  | 0, .tup xs, h => by simp [gd] at h
  | n + 1, .tup xs, h => by
    obtain ⟨h1, h2⟩ := gd_tup h
    simp only [gd, Bool.and_eq_true, decide_eq_true_eq, List.all_eq_true]
    exact ⟨h1, fun x hx => gd_mono (h2 x hx)⟩
  | n, .dct _, h => by cases n <;> simp [gd] at h
  | n, .obj _ _, h => by cases n <;> simp [gd] at h
  | n, .ref _, h => by cases n <;> simp [gd] at h
  | n, .ty _, h => by cases n <;> simp [gd] at h
  | n, .scr _, h => by cases n <;> simp [gd] at h
  | n, .exc _ _, h => by cases n <;> simp [gd] at h
  | n, .cls _, h => by cases n <;> simp [gd] at h
theorem gd_le {n m : Nat} {d : D} (h : gd n d = true) (hm : n ≤ m) : gd m d = true := by
  induction hm with
  | refl => exact h
  | step _ ih => exact gd_mono ih
theorem gd_py : ∀ {n : Nat} {d : D}, gd n d = true → pyN n d = true
  | n, .non, _ => by cases n <;> rfl
  | n, .bl _, _ => by cases n <;> rfl
  | n, .int _, _ => by cases n <;> rfl
  | n, .str z, h => by cases n <;> exact (gd_str h).1
  | 0, .lst _ xs, h => by simp [gd] at h
  | n + 1, .lst _ xs, h => by
    obtain ⟨h1, h2⟩ := gd_lst h
    simp only [pyN, List.all_eq_true]
    exact fun x hx => gd_py (h2 x hx)
  | 0, .tup xs, h => by simp [gd] at h
  | n + 1, .tup xs, h => by
    obtain ⟨h1, h2⟩ := gd_tup h
    simp only [pyN, List.all_eq_true]
    exact fun x hx => gd_py (h2 x hx)
  | n, .dct _, h => by cases n <;> simp [gd] at h
  | n, .obj _ _, h => by cases n <;> simp [gd] at h
  | n, .ref _, h => by cases n <;> simp [gd] at h
  | n, .ty _, h => by cases n <;> simp [gd] at h
  | n, .scr _, h => by cases n <;> simp [gd] at h
  | n, .exc _ _, h => by cases n <;> simp [gd] at h
  | n, .cls _, h => by cases n <;> simp [gd] at h
@[simp] theorem eqB_bl (a b : Bool) : eqB (.bl a) (.bl b) = (a == b) := rfl
@[simp] theorem eqB_int (a b : Int) : eqB (.int a) (.int b) = (a == b) := rfl
@[simp] theorem eqB_str (a b : Str) : eqB (.str a) (.str b) = (a == b) := rfl
@[simp] theorem eqOk_bl (a b : Bool) : eqOk (.bl a) (.bl b) = true := rfl
@[simp] theorem eqOk_int (a b : Int) : eqOk (.int a) (.int b) = true := rfl
@[simp] theorem eqOk_str (a b : Str) : eqOk (.str a) (.str b) = true := rfl
/-! ### a law's own promises -/
/-- a number below many is drawn from the bag at b -/
def spDraw : DSp := fun ds M Q _ => ∃ b many, ds = [.ref b, .int many] ∧ M b = some .bag ∧ (0 < many ∧ many < 1073741824) ∧ ∀ n : Int, 0 ≤ n → n < many → Q (.int n) M
def spPick : DSp := fun ds M Q _ => (∃ b r xs, ds = [.ref b, .lst r xs] ∧ M b = some .bag ∧ (0 < xs.length ∧ xs.length ≤ 100000) ∧ ∀ x ∈ xs, Q x M) ∨
  (∃ b xs, ds = [.ref b, .tup xs] ∧ M b = some .bag ∧ (0 < xs.length ∧ xs.length ≤ 100000) ∧ ∀ x ∈ xs, Q x M) ∨
  ∃ b z, ds = [.ref b, .str z] ∧ M b = some .bag ∧ (0 < z.length ∧ z.length ≤ 100000) ∧ ∀ ch ∈ z.cps.toList, Q (.str ⟨#[ch]⟩) M
def spBag : DSp := fun ds M Q _ => ∃ ns : List Int, ds = [.scr ns] ∧ ns.length ≤ 63 ∧ ∀ b, M b = none → Q (.ref b) (setM M b .bag)
def spLaw : DSp := fun ds M Q _ => ∃ ns : List Int, ds = [.scr ns] ∧ ns.length ≤ 63 ∧ M = (fun _ => none) ∧ ∀ M', Q (.bl true) M'
/-- same of two plain data -/
def spSame (n : Nat) : DSp := fun ds M Q _ => ∃ x y, ds = [x, y] ∧ gd n x = true ∧ gd n y = true ∧ ∀ k : Bool, (k = true ↔ py x = py y) → Q (.bl k) M
theorem atI_some {α : Type} {xs : List α} {i : Int} (h0 : 0 ≤ i) (h1 : i < xs.length) : ∃ x, atI xs i = some x ∧ x ∈ xs := by
  unfold atI ixN
  rw [if_pos h0, if_pos h1]
  have h2 : i.toNat < xs.length := by omega
  exact ⟨xs[i.toNat], by simp [h2], List.getElem_mem h2⟩
/-! ### comprehensions, by what their elements are -/
theorem compi_of {α : Type} {g : DG} {te : DE} {ρ : DEnv} {M : Mu} {h f : α → D} : ∀ (l : List α) (acc : List D) (Q : DK), (∀ a ∈ l, ∀ Q : DK, Q (f a) M → g (h a) ρ M fun ρ1 M1 => te ρ1 M1 Q) → acc.length + l.length ≤ 100000 → Q (.lst 0 (acc ++ l.map f)) M → compi g dYes te ρ (l.map h) acc M Q
  | [], acc, Q, _, hl, q => by simpa [compi] using q
  | x :: xs, acc, Q, hh, hl, q => by
    rw [List.map_cons, compi]
    show g (h x) ρ M fun ρ1 M1 => te ρ1 M1 fun d M3 => acc.length < 100000 ∧ compi g dYes te ρ (xs.map h) (acc ++ [d]) M3 Q
    refine hh x List.mem_cons_self _ ⟨by simp at hl; omega, compi_of xs (acc ++ [f x]) Q (fun y hy => hh y (List.mem_cons_of_mem _ hy)) (by simp at hl ⊢; omega) ?_⟩
    simpa using q
/-- each element is some datum with P -/
theorem compi_any {g : DG} {te : DE} {ρ : DEnv} {M : Mu} {P : D → Prop} : ∀ (xs acc : List D) (Q : DK), (∀ x ∈ xs, ∀ Q : DK, (∀ d, P d → Q d M) → g x ρ M fun ρ1 M1 => te ρ1 M1 Q) → acc.length + xs.length ≤ 100000 →
    (∀ ds : List D, ds.length = xs.length → (∀ d ∈ ds, P d) → Q (.lst 0 (acc ++ ds)) M) → compi g dYes te ρ xs acc M Q
  | [], acc, Q, _, hl, q => by simpa [compi] using q [] rfl (by simp)
  | x :: xs, acc, Q, hh, hl, q => by
    rw [compi]
    show g x ρ M fun ρ1 M1 => te ρ1 M1 fun d M3 => acc.length < 100000 ∧ compi g dYes te ρ xs (acc ++ [d]) M3 Q
    refine hh x List.mem_cons_self _ fun d hd => ⟨by simp at hl; omega, compi_any xs (acc ++ [d]) Q (fun y hy => hh y (List.mem_cons_of_mem _ hy)) (by simp at hl ⊢; omega) fun ds h1 h2 => ?_⟩
    have := q (d :: ds) (by simp [h1]) (by simpa using ⟨hd, h2⟩)
    simpa using this
theorem rngD_len (lo : Int) (n : Nat) : (rngD lo n).length = n := by simp [rngD]
theorem signs_len (z : Str) : (signs z).length = z.length := by simp [signs, Str.length]
/-- each element is some datum in a relation to its item -/
theorem compi_rel {g : DG} {te : DE} {ρ : DEnv} {M : Mu} {P : D → D → Prop} : ∀ (xs acc : List D) (Q : DK), (∀ x ∈ xs, ∀ Q : DK, (∀ d, P x d → Q d M) → g x ρ M fun ρ1 M1 => te ρ1 M1 Q) → acc.length + xs.length ≤ 100000 →
    (∀ ds : List D, Paired P xs ds → Q (.lst 0 (acc ++ ds)) M) → compi g dYes te ρ xs acc M Q
  | [], acc, Q, _, hl, q => by simpa [compi] using q [] .nil
  | x :: xs, acc, Q, hh, hl, q => by
    rw [compi]
    show g x ρ M fun ρ1 M1 => te ρ1 M1 fun d M3 => acc.length < 100000 ∧ compi g dYes te ρ xs (acc ++ [d]) M3 Q
    refine hh x List.mem_cons_self _ fun d hd => ⟨by simp at hl; omega, compi_rel xs (acc ++ [d]) Q (fun y hy => hh y (List.mem_cons_of_mem _ hy)) (by simp at hl ⊢; omega) fun ds h1 => ?_⟩
    have := q (d :: ds) (.cons hd h1)
    simpa using this
/-- the answers of same, pair by pair -/
theorem same_all : ∀ {xs ys ds : List D}, xs.length = ys.length → Paired (fun z d => ∀ x y, z = .tup [x, y] → ∃ k : Bool, d = .bl k ∧ (k = true ↔ py x = py y)) (zipD xs ys) ds → ∃ bs : List Bool, ds = bs.map D.bl ∧ (bs.all id = true ↔ xs.map py = ys.map py)
  | [], [], ds, _, h => by cases h; exact ⟨[], rfl, by simp⟩
  | [], _ :: _, _, h, _ => by cases h
  | _ :: _, [], _, h, _ => by cases h
  | x :: xs, y :: ys, ds, hl, h => by
    have e : zipD (x :: xs) (y :: ys) = .tup [x, y] :: zipD xs ys := rfl
    rw [e] at h
    cases h with
    | cons h1 h2 =>
      obtain ⟨k, rfl, hk⟩ := h1 x y rfl
      obtain ⟨bs, rfl, hb⟩ := same_all (by simpa using hl) h2
      refine ⟨k :: bs, rfl, ?_⟩
      simp only [List.all_cons, id, Bool.and_eq_true, List.map_cons, List.cons.injEq]
      rw [hk]
      exact and_congr_right fun _ => hb
def spPrev : Nat → DSp
  | 0 => fun _ _ _ _ => False
  | n + 1 => spSame n
theorem pyN_lst {n r : Nat} {xs : List D} (h : pyN (n + 1) (.lst r xs) = true) : ∀ x ∈ xs, pyN n x = true := by simpa [pyN] using h
theorem pyN_tup {n : Nat} {xs : List D} (h : pyN (n + 1) (.tup xs) = true) : ∀ x ∈ xs, pyN n x = true := by simpa [pyN] using h
/-! ### texts -/
theorem strs_ex {p : Str → Prop} : ∀ {ds : List D}, (∀ d ∈ ds, ∃ z, d = .str z ∧ p z) → ∃ ys : List Str, ds = ys.map D.str ∧ ∀ y ∈ ys, p y
  | [], _ => ⟨[], rfl, by simp⟩
  | d :: ds, h => by
    obtain ⟨z, rfl, hz⟩ := h d List.mem_cons_self
    obtain ⟨ys, rfl, hy⟩ := strs_ex (ds := ds) fun e he => h e (List.mem_cons_of_mem _ he)
    exact ⟨z :: ys, rfl, by simpa using ⟨hz, hy⟩⟩
theorem joinL_nil : ∀ l : List (List Nat), TL.joinL [] l = l.flatten
  | [] => rfl
  | [p] => by simp [TL.joinL]
  | p :: q :: r => by simp [TL.joinL, joinL_nil (q :: r)]
theorem join0_tl (ys : List Str) : (Txt.join "" ys).cps.toList = (ys.map fun y => y.cps.toList).flatten := by
  rw [TL.join_eq]
  have h := TL.tl_join "" ys
  have e : TL.tl ("" : Str) = [] := by decide +kernel
  rw [e, joinL_nil] at h
  exact h
theorem len_cps (z : Str) : z.cps.toList.length = z.length := by simp [Str.length]
theorem strOk_iff (z : Str) : PyData.strOk z = true ↔ ∀ c ∈ z.cps.toList, c < 1114112 := by
  unfold PyData.strOk
  rw [Array.all_eq_true_iff_forall_mem]
  simp
theorem app_tl (a b : Str) : (a ++ b).cps.toList = a.cps.toList ++ b.cps.toList := by
  show (a.cps ++ b.cps).toList = _
  simp
theorem app_len (a b : Str) : (a ++ b).length = a.length + b.length := by
  rw [← len_cps, app_tl, List.length_append, len_cps, len_cps]
theorem strOk_app {a b : Str} (ha : PyData.strOk a = true) (hb : PyData.strOk b = true) : PyData.strOk (a ++ b) = true := by
  rw [strOk_iff] at *
  intro c hc
  rw [app_tl] at hc
  rcases List.mem_append.mp hc with h | h
  · exact ha c h
  · exact hb c h
theorem cutS_tl (z : Str) (lo hi : Option Int) : (cutS z lo hi).cps.toList = cut z.cps.toList lo hi := by
  unfold cutS cut
  rw [len_cps]
theorem cutS_len (z : Str) (lo hi : Option Int) : (cutS z lo hi).length ≤ z.length := by
  rw [← len_cps, cutS_tl, ← len_cps z]
  exact cut_len _ _ _
theorem cut_mem {α : Type} {xs : List α} {lo hi : Option Int} {x : α} (h : x ∈ cut xs lo hi) : x ∈ xs := List.mem_of_mem_drop (List.mem_of_mem_take h)
theorem strOk_cut {z : Str} (h : PyData.strOk z = true) (lo hi : Option Int) : PyData.strOk (cutS z lo hi) = true := by
  rw [strOk_iff] at *
  intro c hc
  rw [cutS_tl] at hc
  exact h c (cut_mem hc)
theorem flat_len {ys : List Str} {n : Nat} (h : ∀ y ∈ ys, y.length ≤ n) : ((ys.map fun y => y.cps.toList).flatten).length ≤ ys.length * n := by
  induction ys with
  | nil => simp
  | cons y ys ih =>
    have h1 := h y List.mem_cons_self
    have h2 := ih fun z hz => h z (List.mem_cons_of_mem _ hz)
    rw [List.map_cons, List.flatten_cons, List.length_append, len_cps, List.length_cons, Nat.add_mul]
    omega
theorem sum_len {ys : List Str} {n : Nat} (h : ∀ y ∈ ys, y.length ≤ n) : (ys.map (·.length)).sum ≤ ys.length * n := by
  induction ys with
  | nil => simp
  | cons y ys ih =>
    have h1 := h y List.mem_cons_self
    have h2 := ih fun z hz => h z (List.mem_cons_of_mem _ hz)
    rw [List.map_cons, List.sum_cons, List.length_cons, Nat.add_mul]
    omega
theorem join0_ok {ys : List Str} (h : ∀ y ∈ ys, PyData.strOk y = true) : PyData.strOk (Txt.join "" ys) = true := by
  rw [strOk_iff, join0_tl]
  intro c hc
  obtain ⟨l, hl, hc⟩ := List.mem_flatten.mp hc
  obtain ⟨y, hy, rfl⟩ := List.mem_map.mp hl
  exact (strOk_iff y).mp (h y hy) c hc
theorem join0_len {ys : List Str} {n : Nat} (h : ∀ y ∈ ys, y.length ≤ n) : (Txt.join "" ys).length ≤ ys.length * n := by
  rw [← len_cps, join0_tl]
  exact flat_len h
/-! ### statements, one at a time: what an expression gives, then the rest -/
section
variable {t u : DS} {te : DE} {tt : DT} {ti : DI} {g : DG} {E : DEnds} {ρ : DEnv} {M : Mu} {i j : Nat} {v v' : D} {b : Bool} {ds : List D}
theorem x_seq (h : t { nx := u E, rt := E.rt, bk := E.bk, ct := E.ct } ρ M) : dSeq t u E ρ M := h
theorem x_set (h : ∀ K : DK, K v M → te ρ M K) (k : E.nx (ρ.set i (some v)) M) : dAsg te (gNm i) E ρ M := h _ k
theorem x_setP (P : D → Mu → Prop) (h : ∀ K : DK, (∀ d M1, P d M1 → K d M1) → te ρ M K) (k : ∀ d M1, P d M1 → E.nx (ρ.set i (some d)) M1) : dAsg te (gNm i) E ρ M := h _ k
theorem x_asg (h : ∀ K : DK, K v M → te ρ M K) (k : g v ρ M E.nx) : dAsg te g E ρ M := h _ k
theorem x_par {ta : DA} (h : ∀ K : List D → Mu → Prop, K [v, v'] M → ta ρ M K) (k : E.nx ((ρ.set i (some v)).set j (some v')) M) : dPar i j ta E ρ M := h _ k
theorem x_parP {ta : DA} (P : D → D → Prop) (h : ∀ K : List D → Mu → Prop, (∀ v v', P v v' → K [v, v'] M) → ta ρ M K) (k : ∀ v v', P v v' → E.nx ((ρ.set i (some v)).set j (some v')) M) : dPar i j ta E ρ M := h _ k
theorem x_if (h : ∀ K : Bool → Mu → Prop, K b M → tt ρ M K) (h1 : b = true → t E ρ M) (h2 : b = false → u E ρ M) : dIfS tt t u E ρ M := h _ (by
  cases b with
  | true => exact iteT (h1 rfl)
  | false => exact iteF (h2 rfl))
theorem x_ifP (P : Bool → Prop) (h : ∀ K : Bool → Mu → Prop, (∀ b, P b → K b M) → tt ρ M K) (h1 : P true → t E ρ M) (h2 : P false → u E ρ M) : dIfS tt t u E ρ M := h _ fun b hb => by
  cases b with
  | true => exact iteT (h1 hb)
  | false => exact iteF (h2 hb)
theorem x_ret (h : ∀ K : DK, K v M → te ρ M K) (k : E.rt v M) : dRet te E ρ M := h _ k
theorem x_retP (P : D → Mu → Prop) (h : ∀ K : DK, (∀ d M1, P d M1 → K d M1) → te ρ M K) (k : ∀ d M1, P d M1 → E.rt d M1) : dRet te E ρ M := h _ k
theorem x_drop (h : ∀ K : DK, K v M → te ρ M K) (k : E.nx ρ M) : dDrop te E ρ M := h _ k
theorem x_for (h : ∀ K : List D → Mu → Prop, K ds M → ti ρ M K) (k : fori g t ds E ρ M) : dFor ti g t E ρ M := h _ k
theorem x_forP (P : List D → Mu → Prop) (h : ∀ K : List D → Mu → Prop, (∀ ds M1, P ds M1 → K ds M1) → ti ρ M K) (k : ∀ ds M1, P ds M1 → fori g t ds E ρ M1) : dFor ti g t E ρ M := h _ k
theorem x_nil {nx : DEnv → Mu → Prop} {rt : DK} {bk ct : DEnv → Mu → Prop} (k : nx ρ M) : fori g t [] { nx := nx, rt := rt, bk := bk, ct := ct } ρ M := k
theorem x_cons {x : D} {xs : List D} (k : g x ρ M fun ρ1 M1 => t { nx := fori g t xs E, rt := E.rt, bk := E.nx, ct := fori g t xs E } ρ1 M1) : fori g t (x :: xs) E ρ M := k
end
/-! ### the same with what stands behind -/
section
variable {t u w' : DS} {te : DE} {tt : DT} {ti : DI} {g : DG} {E : DEnds} {ρ : DEnv} {M : Mu} {i j : Nat} {v v' : D} {b : Bool} {ds : List D}
theorem s_set (h : ∀ K : DK, K v M → te ρ M K) (k : u E (ρ.set i (some v)) M) : dSeq (dAsg te (gNm i)) u E ρ M := h _ k
theorem s_setP (P : D → Mu → Prop) (h : ∀ K : DK, (∀ d M1, P d M1 → K d M1) → te ρ M K) (k : ∀ d M1, P d M1 → u E (ρ.set i (some d)) M1) : dSeq (dAsg te (gNm i)) u E ρ M := h _ k
/-- .. the store as it was -/
theorem s_setQ (P : D → Prop) (h : ∀ K : DK, (∀ d, P d → K d M) → te ρ M K) (k : ∀ d, P d → u E (ρ.set i (some d)) M) : dSeq (dAsg te (gNm i)) u E ρ M := h _ k
theorem s_asg (h : ∀ K : DK, K v M → te ρ M K) (k : g v ρ M (u E)) : dSeq (dAsg te g) u E ρ M := h _ k
theorem s_par {ta : DA} (h : ∀ K : List D → Mu → Prop, K [v, v'] M → ta ρ M K) (k : u E ((ρ.set i (some v)).set j (some v')) M) : dSeq (dPar i j ta) u E ρ M := h _ k
theorem s_parP {ta : DA} (P : D → D → Prop) (h : ∀ K : List D → Mu → Prop, (∀ v v', P v v' → K [v, v'] M) → ta ρ M K) (k : ∀ v v', P v v' → u E ((ρ.set i (some v)).set j (some v')) M) : dSeq (dPar i j ta) u E ρ M := h _ k
theorem s_if (h : ∀ K : Bool → Mu → Prop, K b M → tt ρ M K) (h1 : b = true → t { nx := u E, rt := E.rt, bk := E.bk, ct := E.ct } ρ M) (h2 : b = false → w' { nx := u E, rt := E.rt, bk := E.bk, ct := E.ct } ρ M) : dSeq (dIfS tt t w') u E ρ M := x_if h h1 h2
theorem s_ifP (P : Bool → Prop) (h : ∀ K : Bool → Mu → Prop, (∀ b, P b → K b M) → tt ρ M K) (h1 : P true → t { nx := u E, rt := E.rt, bk := E.bk, ct := E.ct } ρ M) (h2 : P false → w' { nx := u E, rt := E.rt, bk := E.bk, ct := E.ct } ρ M) : dSeq (dIfS tt t w') u E ρ M := x_ifP P h h1 h2
theorem s_drop (h : ∀ K : DK, K v M → te ρ M K) (k : u E ρ M) : dSeq (dDrop te) u E ρ M := h _ k
theorem s_for (h : ∀ K : List D → Mu → Prop, K ds M → ti ρ M K) (k : fori g t ds { nx := u E, rt := E.rt, bk := E.bk, ct := E.ct } ρ M) : dSeq (dFor ti g t) u E ρ M := h _ k
theorem s_forP (P : List D → Mu → Prop) (h : ∀ K : List D → Mu → Prop, (∀ ds M1, P ds M1 → K ds M1) → ti ρ M K) (k : ∀ ds M1, P ds M1 → fori g t ds { nx := u E, rt := E.rt, bk := E.bk, ct := E.ct } ρ M1) : dSeq (dFor ti g t) u E ρ M := h _ k
theorem s_ix {a n : Nat} {z : Int} {p : Addr} {xs : List D} (hρ : ρ[a]? = some (some (.ref p))) (hM : M p = some (.lst xs)) (hj : ixN xs.length z = some n) (h : ∀ K : DK, K v M → te ρ M K) (k : u E ρ (setM M p (.lst (xs.set n v)))) : dSeq (dAsg te (gIx (dVar a) (dC (.int z)))) u E ρ M :=
  h _ (by simp only [gIx, dVar, dC, hρ, hM, hj]; exact k)
theorem x_ix {a n : Nat} {z : Int} {p : Addr} {xs : List D} (hρ : ρ[a]? = some (some (.ref p))) (hM : M p = some (.lst xs)) (hj : ixN xs.length z = some n) (h : ∀ K : DK, K v M → te ρ M K) (k : E.nx ρ (setM M p (.lst (xs.set n v)))) : dAsg te (gIx (dVar a) (dC (.int z))) E ρ M :=
  h _ (by simp only [gIx, dVar, dC, hρ, hM, hj]; exact k)
theorem s_next {nx : DEnv → Mu → Prop} {rt : DK} {bk ct : DEnv → Mu → Prop} (k : nx ρ M) : dNext { nx := nx, rt := rt, bk := bk, ct := ct } ρ M := k
end
/-! ### the law's entry, the bag shut, same at each depth -/
theorem law_in {K : PySem.W.Frag} {H : Hp} {a : Addr} {ns : List Int} {cl : Str → Addr} {tb : List (Addr × Str)} (hl : ns.length ≤ 63) (hS : SqL K H a (ns.map V.int)) (hT : Tabs tb H) : ∃ w : Wd, w.H = H ∧ Cc cl tb w ∧ Ok K w ∧ RpL K w [.scr ns] [.ref a] ∧ w.M = fun _ => none := by
  refine ⟨{ hd := fun _ => none, ln := fun _ _ => none, ex := none, cl := cl, tb := tb, M := fun _ => none, H := H }, rfl, ⟨rfl, rfl, rfl⟩, ⟨fun _ _ e => (by cases e), fun _ _ e => (by cases e), fun _ _ e => (by cases e), fun _ _ _ e => (by cases e), fun _ _ _ e => (by cases e), ⟨0, fun _ _ _ => rfl⟩, fun _ _ e => (by cases e), fun _ _ _ e => (by cases e), hT⟩, ⟨.ref a, [], rfl, ⟨a, rfl, ?_⟩, rfl⟩, rfl⟩
  rcases hS with h | h
  · exact .inl ⟨⟨rfl, rfl, fun _ => rfl⟩, h⟩
  · exact .inr fun H' => .inr h
/-- a promise of the bag's own def, opened -/
def spDraw0 : DSp := fun ds M Q _ => ∃ b many, ∃ (cs : List Int) (i r m : Int), ds = [.ref b, .int many] ∧ M b = some (.lst [.lst 0 (cs.map D.int), .int i, .int r, .int m]) ∧ 0 ≤ i ∧ (0 < many ∧ many < 1073741824) ∧
  ∀ n i' r' : Int, 0 ≤ n → n < many → 0 ≤ i' → Q (.int n) (setM M b (.lst [.lst 0 (cs.map D.int), .int i', .int r', .int m]))
theorem draw_ok {P : Program} {w : World} {K : PySem.W.Frag} {mg : Str → Option Value} {base : Heap} {cl : Str → Addr} {tb : List (Addr × Str)} {CX : CXT} {k : Nat} {f : Addr} {fd : FuncData} {ps : List Str} (F : FnOk P w K mg base CX k f fd ps (upX K cl tb spDraw0)) : FnOk P w K mg base CX k f fd ps (upX K cl tb spDraw) :=
  F.imp fun vs H Q E h => open_bag (s := spDraw) (s' := spDraw0) (fun ds M Q' E' hs => by
    obtain ⟨b, many, rfl, hb, hm, q⟩ := hs
    refine ⟨b, hb, fun cs i r m hl hi => ⟨b, many, cs, i, r, m, rfl, setM_same, hi, hm, fun n i' r' h0 h1 hi' => ⟨⟨i', r', m, hi', setM_set⟩, q n h0 h1⟩⟩⟩) h
/-- a promise that nobody asks for -/
theorem Fnd.no {P : Program} {w : World} {K : PySem.W.Frag} {mg : Str → Option Value} {base : Heap} {cl : Str → Addr} {tb : List (Addr × Str)} {k : Nat} {x : Str} {st : Stmt} {ps : List Str} {f : Addr} {fd : FuncData} (F : FunD K x x (defArgs st) (defBody st) (defScope st) [] [] f fd) (hm : mg x = some (.ref f)) (hb : Binds K fd ps []) : Fnd P w K mg base cl tb k x st ps (spPrev 0) :=
  ⟨f, fd, F, ⟨fun _ _ _ _ ⟨_, _, _, _, _, _, _, _, h, _⟩ => h.elim, fun _ _ _ _ _ _ _ _ _ _ _ _ _ ⟨_, _, _, _, _, _, _, _, h, _⟩ => h.elim⟩, hm, hb⟩
end DL
/-! The data layer, part o: what the head tells of own exceptions, of tuples and dicts of the module. -/
namespace DL
open PySem L2 LamX
/-- an own class over ValueError, with its own __init__ -/
def oexB (K : PySem.W.Frag) (C : Addr) : Bool := (match K.lookup C with
  | some ⟨.type "type", _, .cls cd, sl⟩ => (match cd.mro, sl.toList with
    | .ref C' :: bm, [_, _, _, _, some (.builtin n), _] => C' == C && n == "ValueError.__new__" && !cd.hasDel && cd.hasDict && HandSPX.refsVE bm
    | _, _ => false)
  | _ => false) && (He.eqO (PySem.W.findIn K (.ref C) "__setattr__") (some (some (.builtin "object.__setattr__"))) && (decide (PySem.W.subIn K (.ref C) (.type "BaseException") = some true) && (decide (PySem.W.typeIn K (.ref C) = some (.type "type")) && PySem.W.keepIn K (.ref C))))
theorem oexB_ok {K : PySem.W.Frag} {C : Addr} (h : oexB K C = true) : OexC K C := by
  unfold oexB at h
  obtain ⟨q, h⟩ := He.ba h
  obtain ⟨h1, h⟩ := He.ba h
  obtain ⟨h2, h⟩ := He.ba h
  obtain ⟨h3, h4⟩ := He.ba h
  refine ⟨?_, He.eqO_ok h1, of_decide_eq_true h2, of_decide_eq_true h3, h4⟩
  split at q
  · rename_i dd cd sl ho
    split at q
    · rename_i C' bm k0 k1 k2 k3 n k5 hm hs
      simp only [Bool.and_eq_true, beq_iff_eq, Bool.not_eq_true'] at q
      obtain ⟨⟨⟨⟨rfl, rfl⟩, hdel⟩, hdi⟩, ht⟩ := q
      obtain ⟨nm, bs, mro, ns, qn, hd, sn, sub, ab, col, del⟩ := cd
      dsimp only at hm hdel hdi
      subst hm hdel hdi
      have hsl : sl = #[k0, k1, k2, k3, some (.builtin "ValueError.__new__"), k5] := by
        obtain ⟨l⟩ := sl
        simp only at hs
        rw [hs]
      subst hsl
      exact ⟨nm, qn, ns, bs, bm, sn, sub, ab, col, dd, k0, k1, k2, k3, k5, ho, ht⟩
    · cases q
  · cases q
/-- its __init__ -/
def iniB (K : PySem.W.Frag) (C : Addr) : Bool := He.eqO (PySem.W.findIn K (.ref C) "__init__") (some (some (.ref (He.ma K C "__init__")))) && decide (PySem.W.typeIn K (.ref (He.ma K C "__init__")) = some (.type "function"))
theorem iniB_ok {K : PySem.W.Frag} {C : Addr} (h : iniB K C = true) : PySem.W.findIn K (.ref C) "__init__" = some (some (.ref (He.ma K C "__init__"))) ∧ PySem.W.typeIn K (.ref (He.ma K C "__init__")) = some (.type "function") := by
  obtain ⟨h1, h2⟩ := He.ba h
  exact ⟨He.eqO_ok h1, of_decide_eq_true h2⟩
def noB (K : PySem.W.Frag) (C : Addr) (fs : List Str) : Bool := fs.all fun f => He.eqO (PySem.W.findIn K (.ref C) f) (some none)
theorem noB_ok {K : PySem.W.Frag} {C : Addr} {fs : List Str} (h : noB K C fs = true) {f : Str} (hf : f ∈ fs) : PySem.W.findIn K (.ref C) f = some none := He.eqO_ok (List.all_eq_true.mp h f hf)
/-! ### constants of the module -/
/-- the written value u is this data -/
def cstB (K : PySem.W.Frag) : Nat → Value → D → Bool
  | _, .none, .non => true
  | _, .bool b, .bl c => b == c
  | _, .int i _, .int j => decide (i = j)
  | _, .str x _, .str y => decide (x = y)
  | _, .type m, .ty n => decide (m = n)
  | n + 1, .ref a, .tup ds => (match K.lookup a with
    | some ⟨.type c, _, .seq its _, _⟩ => decide (c = "tuple") && (decide (its.size ≤ sizeLine) && (decide (its.toList.length = ds.length) && (its.toList.zip ds).all fun p => cstB K n p.1 p.2))
    | _ => false)
  | _, _, _ => false
theorem cst_list {K : PySem.W.Frag} {n : Nat} (ih : ∀ u d, cstB K n u d = true → ∃ v, RelV v u ∧ ∀ w, Rp K w d v) : ∀ (us : List Value) (ds : List D), us.length = ds.length → ((us.zip ds).all fun p => cstB K n p.1 p.2) = true → ∃ vs, Vals vs us ∧ ∀ w, RpL K w ds vs
  | [], [], _, _ => ⟨[], .nil, fun _ => rfl⟩
  | [], _ :: _, h, _ => by cases h
  | _ :: _, [], h, _ => by cases h
  | u :: us, d :: ds, hl, h => by
    rw [List.zip_cons_cons, List.all_cons, Bool.and_eq_true] at h
    obtain ⟨v, r, hv⟩ := ih u d h.1
    obtain ⟨vs, rs, hvs⟩ := cst_list ih us ds (by simpa using hl) h.2
    exact ⟨v :: vs, .cons r rs, fun w => ⟨v, vs, rfl, hv w, hvs w⟩⟩
theorem cst_ok {K : PySem.W.Frag} : ∀ (n : Nat) (u : Value) (d : D), cstB K n u d = true → ∃ v, RelV v u ∧ ∀ w, Rp K w d v := by
  have flat : ∀ (n : Nat) (u : Value) (d : D), (∀ ds, d ≠ .tup ds) → cstB K n u d = true → ∃ v, RelV v u ∧ ∀ w, Rp K w d v := by
    intro n u d hd h
    cases d <;> cases u <;> cases n <;> first
      | exact absurd rfl (hd _)
      | exact ⟨.non, rfl, fun _ => rfl⟩
      | (obtain rfl := beq_iff_eq.mp (show (_ == _) = true from h); exact ⟨.bl _, rfl, fun _ => rfl⟩)
      | (obtain rfl := of_decide_eq_true (show decide _ = true from h); first | exact ⟨.int _, ⟨_, rfl⟩, fun _ => rfl⟩ | exact ⟨.str _, ⟨_, rfl⟩, fun _ => rfl⟩ | exact ⟨.ty _, rfl, fun _ => rfl⟩)
      | exact (Bool.noConfusion (show false = true from h))
  intro n
  induction n with
  | zero =>
    intro u d h
    cases d with
    | tup ds => cases u <;> exact (Bool.noConfusion (show false = true from h))
    | _ => exact flat 0 u _ (fun _ z => by cases z) h
  | succ n ih =>
    intro u d h
    cases d with
    | tup ds =>
      cases u with
      | ref a =>
        simp only [cstB] at h
        split at h
        · rename_i c od its k osl q
          simp only [Bool.and_eq_true, decide_eq_true_eq] at h
          obtain ⟨rfl, h2, h3, h4⟩ := h
          obtain ⟨vs, r, hv⟩ := cst_list ih its.toList ds h3 h4
          exact ⟨.ref a, rfl, fun w => ⟨a, vs, rfl, .inr fun H' => .inr ⟨_, its, k, q, rfl, rfl, h2, r⟩, hv w⟩⟩
        · cases h
      | _ => exact (Bool.noConfusion (show false = true from h))
    | _ => exact flat (n + 1) u _ (fun _ z => by cases z) h
def gcB (K : PySem.W.Frag) (x : Str) (d : D) : Bool := match PySem.W.nsIn K mainGlobals x with
  | some (some u) => cstB K 6 u d
  | _ => false
/-- a constant of the module -/
def GC (K : PySem.W.Frag) (mg : Str → Option Value) (x : Str) (d : D) : Prop := ∃ u v, mg x = some u ∧ RelV v u ∧ ∀ w, Rp K w d v
theorem gcB_ok {K : PySem.W.Frag} {h : Heap} {mg : Str → Option Value} (X : K.In h) (G : h.Ns mainGlobals mg) {x : Str} {d : D} (c : gcB K x d = true) : GC K mg x d := by
  unfold gcB at c
  split at c
  · rename_i u q
    obtain ⟨v, r, hv⟩ := cst_ok 6 u d c
    exact ⟨u, v, PySem.W.mg_of X G q, r, hv⟩
  · cases c
theorem pd_globC {X : Cx} {c : Wd} {x : Str} {pos : Pos} {d : D} (h : GC X.K X.mg x d) (hg : Gl X x := by rfl) (hdb : (x == ("__debug__" : Str)) = false := by decide) : PD c X (.Name x pos) (dC d) := by
  obtain ⟨u, v, hm, r, hv⟩ := h
  exact pd_glob hg hm r hv hdb
/-- a tuple of the module -/
theorem pd_globT {X : Cx} {c : Wd} {x : Str} {pos : Pos} {a : Addr} {xs : List V} {ds : List D} (hm : X.mg x = some (.ref a)) (hs : ∀ H, SqT X.K H a xs) (hd : ∀ w, RpL X.K w ds xs) (hg : Gl X x := by rfl) (hdb : (x == ("__debug__" : Str)) = false := by decide) : PD c X (.Name x pos) (dC (.tup ds)) :=
  pd_glob hg hm (v := .ref a) rfl (fun w => ⟨a, xs, rfl, .inr hs, hd w⟩) hdb
theorem strs_rp {K : PySem.W.Frag} {w : Wd} : ∀ zs : List Str, RpL K w (zs.map D.str) (zs.map V.str)
  | [] => rfl
  | z :: zs => ⟨.str z, zs.map V.str, rfl, rfl, strs_rp zs⟩
end DL
/-! The data layer, part p: dicts of the module with text keys. -/
namespace DL
open PySem L2 LamX
/-- at the name x stands a written dict with these keys and data -/
structure KTab (K : PySem.W.Frag) (w : World) (mg : Str → Option Value) (x : Str) (kvs : List (Str × D)) : Prop where
  ex : ∃ a es n, mg x = some (.ref a) ∧ KDict K w a es n ∧ (∀ z, kvs.lookup z = none → PySem.W.nsIn K a z = some none) ∧ ∀ z d, kvs.lookup z = some d → ∃ u v, PySem.W.nsIn K a z = some (some u) ∧ RelV v u ∧ ∀ w, Rp K w d v
def ktB (K : PySem.W.Frag) (a : Addr) (kvs : List (Str × D)) : Bool := kvs.all fun q => match PySem.W.nsIn K a q.1 with
  | some (some u) => cstB K 6 u q.2
  | _ => false
theorem find_none : ∀ {l : List DictEntry} {P : Params} {ks : List Str} {z : Str}, l.map He.keyOf = He.keysIn P ks → z ∉ ks → l.find? (·.key.isStr z) = none ∧ l.any (·.refKey) = false
  | [], _, _, _, _, _ => ⟨rfl, rfl⟩
  | e :: r, _, [], _, h, _ => by cases h
  | e :: r, P, k :: ks, z, h, hz => by
    have h1 : He.keyOf e :: r.map He.keyOf = some (k, PyData.keyHash P k) :: He.keysIn P ks := h
    injection h1 with h2 h3
    obtain ⟨i1, i2⟩ := find_none h3 (fun q => hz (List.mem_cons_of_mem _ q))
    unfold He.keyOf at h2
    split at h2
    · rename_i x t q
      obtain ⟨h5, h6⟩ := Prod.mk.inj (Option.some.inj h2)
      subst h5
      have hne : ¬ x = z := fun e => hz (by rw [← e]; exact List.mem_cons_self)
      have e1 : e.key.isStr z = false := by rw [q]; simp [Value.isStr, hne]
      have e2 : e.refKey = false := by unfold DictEntry.refKey; rw [q]
      exact ⟨by rw [List.find?_cons, e1]; exact i1, by rw [List.any_cons, e2, i2]; rfl⟩
    · cases h2
theorem lookup_none_mem {kvs : List (Str × D)} {z : Str} (h : kvs.lookup z = none) : z ∉ kvs.map (·.1) := by
  induction kvs with
  | nil => simp
  | cons p r ih =>
    rw [List.lookup] at h
    cases e : z == p.1 with
    | true => rw [e] at h; cases h
    | false =>
      rw [e] at h
      simp only [List.map_cons, List.mem_cons, not_or]
      exact ⟨by simpa using e, ih h⟩
theorem lookup_mem {kvs : List (Str × D)} {z : Str} {d : D} (h : kvs.lookup z = some d) : (z, d) ∈ kvs := by
  induction kvs with
  | nil => cases h
  | cons p r ih =>
    obtain ⟨k, e⟩ := p
    rw [List.lookup] at h
    cases q : z == k with
    | true => rw [q] at h; cases h; rw [beq_iff_eq.mp q]; exact List.mem_cons_self
    | false => rw [q] at h; exact List.mem_cons_of_mem _ (ih h)
theorem kt_ok {K : PySem.W.Frag} {w : World} {mg : Str → Option Value} {x : Str} {a : Addr} {kvs : List (Str × D)} (hm : mg x = some (.ref a)) (h : He.dicW K a = some (He.keysIn w.params (kvs.map (·.1)))) (c : ktB K a kvs = true) : KTab K w mg x kvs := by
  obtain ⟨es, n, kd⟩ := He.dicW_ok h
  refine ⟨a, es, n, hm, kd, fun z hz => ?_, fun z d hz => ?_⟩
  · have e : es.toList.map He.keyOf = He.keysIn w.params (kvs.map (·.1)) := by
      have h' : (match decide ("dict" = "dict") && ((#[] : Array (Option Value)).isEmpty && !(a == sysModules)) with
          | true => some (es.toList.map He.keyOf)
          | false => none) = some (He.keysIn w.params (kvs.map (·.1))) := by
        unfold He.dicW at h
        rw [kd.at_] at h
        exact h
      split at h'
      · exact Option.some.inj h'
      · cases h'
    obtain ⟨h1, h2⟩ := find_none e (lookup_none_mem hz)
    unfold PySem.W.nsIn
    rw [kd.at_]
    simp only [h1, h2]; rfl
  · have q := List.all_eq_true.mp c _ (lookup_mem hz)
    simp only at q
    split at q
    · rename_i u e
      obtain ⟨v, r, hv⟩ := cst_ok 6 u d q
      exact ⟨u, v, e, r, hv⟩
    · cases q
section
variable {X : Cx} {c : Wd} {e : Expr} {te : DE} {pos p : Pos} {x : Str} {kvs : List (Str × D)}
/-- e in T, e not in T -/
@[simp] def dInK (neg : Bool) (kvs : List (Str × D)) (te : DE) : DE := fun ρ M Q => te ρ M fun d M1 => match d with | .str z => Q (.bl ((kvs.lookup z).isSome != neg)) M1 | _ => False
@[simp] def dIxK (kvs : List (Str × D)) (te : DE) : DE := fun ρ M Q => te ρ M fun d M1 => match d with | .str z => (match kvs.lookup z with | some y => Q y M1 | none => False) | _ => False
theorem look_some {K : PySem.W.Frag} {a : Addr} {z : Str} (h0 : kvs.lookup z = none → PySem.W.nsIn K a z = some none) (h1 : ∀ d, kvs.lookup z = some d → ∃ u v, PySem.W.nsIn K a z = some (some u) ∧ RelV v u ∧ ∀ w, Rp K w d v) : ∃ r, PySem.W.nsIn K a z = some r ∧ r.isSome = (kvs.lookup z).isSome := by
  cases e : kvs.lookup z with
  | none => exact ⟨none, h0 e, rfl⟩
  | some d => obtain ⟨u, v, h, _⟩ := h1 d e; exact ⟨some u, h, rfl⟩
theorem inK_imp {a : Addr} (h0 : ∀ z, kvs.lookup z = none → PySem.W.nsIn X.K a z = some none) (h1 : ∀ z d, kvs.lookup z = some d → ∃ u v, PySem.W.nsIn X.K a z = some (some u) ∧ RelV v u ∧ ∀ w, Rp X.K w d v) {ρ : DEnv} {w : Wd} {Q' : DK} {σ : St} {H : Hp} {Q : VK} (hH : w.H = H) (a0 : At X.K c w ρ σ) (h : dInK false kvs te ρ w.M Q') (k : Wv X.K w Q' Q) :
    tOp (fun x y H Q => ∃ (z : Str) (r : Option Value), x = .str z ∧ y = .ref a ∧ PySem.W.nsIn X.K a z = some r ∧ Q (.bl (r.isSome)) H) (lift X.K c te) (tC (.ref a)) σ H Q := ⟨ρ, w, _, hH, a0, h, fun d w1 v q b r => by
  cases d with
  | str z =>
    obtain rfl : v = .str z := r
    obtain ⟨rr, e1, e2⟩ := look_some (h0 z) (h1 z)
    refine ⟨z, rr, rfl, rfl, e1, ?_⟩
    have e3 : (rr.isSome) = ((kvs.lookup z).isSome != false) := by rw [e2]; cases (kvs.lookup z).isSome <;> rfl
    rw [e3]
    exact k _ w1 _ q b rfl
  | _ => exact q.elim⟩
theorem pd_inK (T : KTab X.K X.w X.mg x kvs) (he : PD c X e te) (hg : Gl X x := by rfl) (hdb : (x == ("__debug__" : Str)) = false := by decide) : PD c X (.Compare e [.In] [.Name x p] pos) (dInK false kvs te) := by
  obtain ⟨a, es, n, hm, kd, h0, h1⟩ := T.ex
  exact PE_imp (pe_cmpR (op_in_kd kd) he (pe_glob (v := .ref a) hg hm rfl hdb) (by rfl)) fun σ H Q ⟨ρ, w, Q', hH, a0, h, k⟩ => inK_imp h0 h1 hH a0 h k
theorem pdt_inK (T : KTab X.K X.w X.mg x kvs) (he : PD c X e te) (hg : Gl X x := by rfl) (hdb : (x == ("__debug__" : Str)) = false := by decide) : PDT c X (.Compare e [.In] [.Name x p] pos) (dB (dInK false kvs te)) := by
  obtain ⟨a, es, n, hm, kd, h0, h1⟩ := T.ex
  exact PT_imp (pt_cmpR (op_in_kd kd) he (pe_glob (v := .ref a) hg hm rfl hdb) (by rfl)) fun σ H Q ⟨ρ, w, Q', hH, a0, h, k⟩ => inK_imp h0 h1 hH a0 h (Wv.isB k)
theorem ninK_imp {a : Addr} (h0 : ∀ z, kvs.lookup z = none → PySem.W.nsIn X.K a z = some none) (h1 : ∀ z d, kvs.lookup z = some d → ∃ u v, PySem.W.nsIn X.K a z = some (some u) ∧ RelV v u ∧ ∀ w, Rp X.K w d v) {ρ : DEnv} {w : Wd} {Q' : DK} {σ : St} {H : Hp} {Q : VK} (hH : w.H = H) (a0 : At X.K c w ρ σ) (h : dInK true kvs te ρ w.M Q') (k : Wv X.K w Q' Q) :
    tOp (fun x y H Q => ∃ (z : Str) (r : Option Value), x = .str z ∧ y = .ref a ∧ PySem.W.nsIn X.K a z = some r ∧ Q (.bl (!r.isSome)) H) (lift X.K c te) (tC (.ref a)) σ H Q := ⟨ρ, w, _, hH, a0, h, fun d w1 v q b r => by
  cases d with
  | str z =>
    obtain rfl : v = .str z := r
    obtain ⟨rr, e1, e2⟩ := look_some (h0 z) (h1 z)
    refine ⟨z, rr, rfl, rfl, e1, ?_⟩
    have e3 : (!rr.isSome) = ((kvs.lookup z).isSome != true) := by rw [e2]; cases (kvs.lookup z).isSome <;> rfl
    rw [e3]
    exact k _ w1 _ q b rfl
  | _ => exact q.elim⟩
theorem pd_ninK (T : KTab X.K X.w X.mg x kvs) (he : PD c X e te) (hg : Gl X x := by rfl) (hdb : (x == ("__debug__" : Str)) = false := by decide) : PD c X (.Compare e [.NotIn] [.Name x p] pos) (dInK true kvs te) := by
  obtain ⟨a, es, n, hm, kd, h0, h1⟩ := T.ex
  exact PE_imp (pe_cmpR (op_notIn_kd kd) he (pe_glob (v := .ref a) hg hm rfl hdb) (by rfl)) fun σ H Q ⟨ρ, w, Q', hH, a0, h, k⟩ => ninK_imp h0 h1 hH a0 h k
theorem pdt_ninK (T : KTab X.K X.w X.mg x kvs) (he : PD c X e te) (hg : Gl X x := by rfl) (hdb : (x == ("__debug__" : Str)) = false := by decide) : PDT c X (.Compare e [.NotIn] [.Name x p] pos) (dB (dInK true kvs te)) := by
  obtain ⟨a, es, n, hm, kd, h0, h1⟩ := T.ex
  exact PT_imp (pt_cmpR (op_notIn_kd kd) he (pe_glob (v := .ref a) hg hm rfl hdb) (by rfl)) fun σ H Q ⟨ρ, w, Q', hH, a0, h, k⟩ => ninK_imp h0 h1 hH a0 h (Wv.isB k)
theorem pd_ixK (T : KTab X.K X.w X.mg x kvs) (he : PD c X e te) (hs : PlainIx e := by exact fun _ _ => rfl) (hg : Gl X x := by rfl) (hdb : (x == ("__debug__" : Str)) = false := by decide) : PD c X (.Subscript (.Name x p) e pos) (dIxK kvs te) := by
  obtain ⟨a, es, n, hm, kd, h0, h1⟩ := T.ex
  refine PE_imp (pe_ix ix_kdict (pe_glob (v := .ref a) hg hm rfl hdb) he hs) fun σ H Q ⟨ρ, w, Q', hH, a0, h, k⟩ => ?_
  refine ⟨ρ, w, _, hH, a0, h, fun d w1 v q b r => ?_⟩
  cases d with
  | str z =>
    obtain rfl : v = .str z := r
    cases e : kvs.lookup z with
    | none => simp only [e] at q
    | some y =>
      simp only [e] at q
      obtain ⟨u, vy, e1, r1, hv⟩ := h1 z y e
      exact ⟨a, z, vy, rfl, rfl, ⟨es, n, u, kd.at_, kd.lit, e1, r1⟩, k y w1 vy q b (hv w1)⟩
  | _ => exact q.elim
end
end DL
/-! The data layer, part q: defs whose code object is told, an exception's __init__ by its body, the end. -/
namespace DL
open PySem L2 LamX L2H PyProof.Rows
theorem RoomH.units {k : Nat} {A : Around} (r : L2H.RoomH k A) : A.units + 64 < cLine := by have := r.un; omega
theorem roomH_suite {k : Nat} {A : Around} (r : Room k A) (a : Addr) : L2H.RoomH k (A.mark (some (.ref a))) := ⟨r.dp, r.un⟩
section
variable {P : Program} {w : World} {K : PySem.W.Frag} {mg : Str → Option Value} {base : Heap} {x qual : Str} {st : Stmt} {dvs : List V} {kws : List (Str × V)} {fd : FuncData} {cl : Str → Addr} {tb : List (Addr × Str)} {p : Str × Option Str}
/-- a def keeps its promise; its code object is told -/
theorem fnXc {N ps : List Str} {k : Nat} {s : DSp} {t : DXK → DS} (F : FunD K x qual (defArgs st) (defBody st) (defScope st) dvs kws (He.fAd K p) fd) (S : FnScope N ps (defScope st))
    (hb : ∀ (cdv : Value) (A : Around) (outer : List Env) (sh : Shared) (H : Hp) (E : XK) (c : Wd) (E' : DXK), cdv = .ref (He.codeOf K p) → Cc cl tb c → Room k (A.deeper (PyProof.Rows.envOfC qual (defScope st) sh.heap.objs.size (He.fAd K p) cdv)) → Tk c (cxOf (L2N.CX P w) P w K mg base N qual (defScope st) (He.fAd K p) cdv A outer sh H E) E' →
      PDSs c (cxOf (L2N.CX P w) P w K mg base N qual (defScope st) (He.fAd K p) cdv A outer sh H E) (defBody st) (t E'))
    (hs : ∀ ds M Q E', s ds M Q E' → ds.length = ps.length ∧ t E' { nx := fun _ M' => Q .non M', rt := Q } (startD N ds) M) : FnOk P w K mg base (L2N.CX P w) (k + 1) (He.fAd K p) fd ps (upX K cl tb s) := by
  obtain ⟨oc, od, dV, kV, doc, pm, an, cdv, ct, osl, rfl, lk, hcd, _, _⟩ := F.ex
  obtain ⟨cc, ecc⟩ := He.codeIn_ref hcd
  have ec := He.codeOf_eq lk (show (PySem.W.fnOf x qual (defArgs st) (defBody st) (defScope st) dV kV doc pm an cdv ct).code = .ref cc from ecc)
  refine fn_of lk hcd S (fun vs H Q E h => ?_) fun A outer sh H vs Q E hr h => ?_
  · obtain ⟨w, ds, Q', E', hH, hcc, ok, r, h, k, kx⟩ := h
    rw [r.length]; exact (hs ds _ Q' E' h).1
  · obtain ⟨w, ds, Q', E', hH, hcc, ok, r, h, k, kx⟩ := h
    refine ⟨liftS K w (t E'), hb cdv A outer sh H E w E' (by rw [ecc, ec]) hcc hr (tk_of kx), startD N ds, w, _, hH, ⟨Kp.refl w, RE.start r, ok, rfl, rfl⟩, (hs ds _ Q' E' h).2, ?_⟩
    exact { nx := fun ρ' w' σ' q b a => k .non w' .non q b rfl, rt := k, bk := fun _ _ _ q => q.elim, ct := fun _ _ _ q => q.elim }
end
/-- the law's end: what the walk of the law gives -/
theorem law_end {K : PySem.W.Frag} {cl : Str → Addr} {cs : List (Addr × Addr)} {q : Str} {s : DSp} (hs : ∀ (ns : List Int) (M : Mu), ns.length ≤ 63 → M = (fun _ => none) → s [.scr ns] M (fun d _ => d = .bl true) DX0) (H : Hp) (a : Addr) (ns : List Int) (hl : ns.length ≤ 63) (hT : ∀ p ∈ cs, H p.2 = some (.tbl #[])) (hS : SqL K H a (ns.map V.int)) :
    upX K cl (cs.map fun p => (p.2, q)) s [.ref a] H (fun v _ => v = .bl true) fun _ _ _ => False := by
  obtain ⟨w, hH, hcc, ok, r, hM⟩ := law_in (K := K) (cl := cl) (tb := cs.map fun p => (p.2, q)) hl hS (fun p hp => by
    obtain ⟨p0, h0, rfl⟩ := List.mem_map.mp hp
    exact TabS.nil (hT p0 h0))
  refine ⟨w, [.scr ns], _, DX0, hH, hcc, ok, r, hs ns w.M hl hM, fun d w' v q' b r' => ?_, fun _ _ _ _ _ z => z.elim⟩
  obtain rfl : d = .bl true := q'
  exact r'
end DL
/-! The data layer, part r: the end for several tables. -/
namespace DL
open PySem L2 LamX L2H PyProof.Rows
theorem law_end2 {K : PySem.W.Frag} {cl : Str → Addr} {tb : List (Addr × Str)} {s : DSp} (hs : ∀ (ns : List Int) (M : Mu), ns.length ≤ 63 → M = (fun _ => none) → s [.scr ns] M (fun d _ => d = .bl true) DX0) (H : Hp) (a : Addr) (ns : List Int) (hl : ns.length ≤ 63) (hT : ∀ p ∈ tb, H p.1 = some (.tbl #[])) (hS : SqL K H a (ns.map V.int)) :
    upX K cl tb s [.ref a] H (fun v _ => v = .bl true) fun _ _ _ => False := by
  obtain ⟨w, hH, hcc, ok, r, hM⟩ := law_in (K := K) (cl := cl) (tb := tb) hl hS (fun p hp => TabS.nil (hT p hp))
  refine ⟨w, [.scr ns], _, DX0, hH, hcc, ok, r, hs ns w.M hl hM, fun d w' v q' b r' => ?_, fun _ _ _ _ _ z => z.elim⟩
  obtain rfl : d = .bl true := q'
  exact r'
/-- no exception leaves the law -/
theorem cx_end (P : Program) (w : World) (H : Hp) (s : Shared) (e : Value) (s' : Shared) (h : L2N.CX P w [] H s (fun _ _ _ => False) e s') : False := by
  obtain ⟨_, _, _, _, _, _, _, _, _, _, _, _, z⟩ := h
  exact z
/-- the tables of the law's defs -/
theorem tb_one {K : PySem.W.Frag} {l : List ((Str × Option Str) × Str)} (hn : (l.map fun p => (He.cT K p.1).2).Nodup) {p : (Str × Option Str) × Str} (hp : p ∈ l) : (((He.cT K p.1).2, p.2) ∈ l.map fun p => ((He.cT K p.1).2, p.2)) ∧ ∀ q ∈ l.map (fun p => ((He.cT K p.1).2, p.2)), q.1 = (He.cT K p.1).2 → q.2 = p.2 := by
  refine ⟨List.mem_map.mpr ⟨p, hp, rfl⟩, fun q hq e => ?_⟩
  obtain ⟨p', hp', rfl⟩ := List.mem_map.mp hq
  have e' : (He.cT K p'.1).2 = (He.cT K p.1).2 := e
  have : p' = p := by
    induction l with
    | nil => cases hp
    | cons z l ih =>
      rw [List.map_cons, List.nodup_cons] at hn
      rcases List.mem_cons.mp hp with h1 | h1 <;> rcases List.mem_cons.mp hp' with h2 | h2
      · rw [h1, h2]
      · exact absurd (List.mem_map.mpr ⟨p', h2, by rw [e', h1]⟩) hn.1
      · exact absurd (List.mem_map.mpr ⟨p, h1, by rw [← e', h2]⟩) hn.1
      · exact ih hn.2 h1 h2 (List.mem_map.mpr ⟨p', h2, rfl⟩)
  rw [this]
theorem tab_at {fa : List He.Fa} {fn : List He.DefD} {ts : List He.Tab} {w : World} {K : PySem.W.Frag} (c : He.SaysT fa fn ts w K) (i : Nat) {t : He.Tab} (h : ts[i]? = some t) : He.dicW K (t.1 K) = some (He.keysIn w.params t.2) := by
  have e : ts.map (fun t => He.dicW K (t.1 K)) = ts.map fun t => some (He.keysIn w.params t.2) := congrArg (fun z : He.AlT => z.2) c
  have e2 : (ts.map fun t => He.dicW K (t.1 K))[i]? = (ts.map fun t => some (He.keysIn w.params t.2))[i]? := by rw [e]
  rw [List.getElem?_map, List.getElem?_map, h] at e2
  exact Option.some.inj e2
end DL
/-! The data layer, part s: tools for what is shown over data alone. -/
namespace DL
open PySem L2
section
variable {g : DG} {t : DS} {E : DEnds} {ρ : DEnv} {M : Mu} {Q : DK} {X : DXK} {b : Addr}
/-- a loop by what stands at each turn -/
theorem fori_inv {P : DEnv → Mu → Prop} : ∀ {ds : List D} {ρ : DEnv} {M : Mu}, (∀ x ∈ ds, ∀ ρ M, P ρ M → ∀ nx : DEnv → Mu → Prop, (∀ ρ' M', P ρ' M' → nx ρ' M') → g x ρ M fun ρ1 M1 => t { nx := nx, rt := E.rt, bk := E.nx, ct := nx } ρ1 M1) →
    P ρ M → (∀ ρ M, P ρ M → E.nx ρ M) → fori g t ds E ρ M
  | [], ρ, M, _, h0, hx => hx ρ M h0
  | x :: xs, ρ, M, h, h0, hx => h x List.mem_cons_self ρ M h0 _ fun ρ' M' p => fori_inv (fun y hy => h y (List.mem_cons_of_mem _ hy)) p hx
/-- a loop by what stands ahead of the items that are left -/
theorem fori_left {P : List D → DEnv → Mu → Prop} : ∀ {ds : List D} {ρ : DEnv} {M : Mu}, (∀ x r ρ M, P (x :: r) ρ M → ∀ nx : DEnv → Mu → Prop, (∀ ρ' M', P r ρ' M' → nx ρ' M') → g x ρ M fun ρ1 M1 => t { nx := nx, rt := E.rt, bk := E.nx, ct := nx } ρ1 M1) →
    P ds ρ M → (∀ ρ M, P [] ρ M → E.nx ρ M) → fori g t ds E ρ M
  | [], ρ, M, _, h0, hx => hx ρ M h0
  | x :: xs, ρ, M, h, h0, hx => h x xs ρ M h0 _ fun ρ' M' p => fori_left h p hx
theorem pick_l {r : Nat} {xs : List D} (hb : M b = some .bag) (h0 : 0 < xs.length) (h1 : xs.length ≤ 100000) (q : ∀ x ∈ xs, Q x M) : spPick [.ref b, .lst r xs] M Q X := .inl ⟨b, r, xs, rfl, hb, ⟨h0, h1⟩, q⟩
theorem draw_i {many : Int} (hb : M b = some .bag) (h0 : 0 < many) (h1 : many < 1073741824) (q : ∀ n : Int, 0 ≤ n → n < many → Q (.int n) M) : spDraw [.ref b, .int many] M Q X := ⟨b, many, rfl, hb, ⟨h0, h1⟩, q⟩
theorem same_t {n : Nat} {x y : D} (hx : gd n x = true) (hy : gd n y = true) (e : py x = py y) (q : Q (.bl true) M) : spSame n [x, y] M Q X := ⟨x, y, rfl, hx, hy, fun k hk => by rw [hk.mpr e]; exact q⟩
theorem bag_i {ns : List Int} (hl : ns.length ≤ 63) (q : ∀ b, M b = none → Q (.ref b) (setM M b .bag)) : spBag [.scr ns] M Q X := ⟨ns, rfl, hl, q⟩
end
end DL
/-! Shared by the laws: constants. Printed by a program of mine. -/
namespace HS
open PySem L2 DL
def fl_InvalidMirror : List (Str × (Sum Str Nat)) := [("value", .inr 0), ("code", .inl "InvalidMirror")]
def kv_OFFSETS : List (Str × D) := [("stay", (.tup [(.int 0), (.int 0)])), ("north", (.tup [(.int (-1)), (.int 0)])), ("east", (.tup [(.int 0), (.int 1)])), ("south", (.tup [(.int 1), (.int 0)])), ("west", (.tup [(.int 0), (.int (-1))]))]
end HS
/-! What each shared def promises, over data. -/
namespace HS
open PySem L2 DL
abbrev ty (d : D) : Prop := (tyN d).isSome = true
def isNum : D → Int → Int → Bool
  | .int i, lo, hi => decide (lo ≤ i) && decide (i ≤ hi)
  | _, _, _ => false
def isToll (d : D) : Bool := isNon d || isNum d 0 99
def isWind : D → Bool
  | .tup xs => decide (xs.length = 5) && xs.all isToll
  | _ => false
/-- items of which isinstance may be asked -/
def tys (xs : List D) : Prop := xs.length ≤ 50000 ∧ ∀ x ∈ xs, ty x
def ty1 (d : D) : Prop := ty d ∧ ∀ xs, d = .tup xs → tys xs
def sp_is_number : DSp := fun ds M Q _ => ∃ v lo hi, ds = [v, .int lo, .int hi] ∧ ty v ∧ Q (.bl (isNum v lo hi)) M
def sp_is_wind : DSp := fun ds M Q _ => ∃ v, ds = [v] ∧ ty1 v ∧ Q (.bl (isWind v)) M
def offs (z : Str) : Option (Int × Int) := match kv_OFFSETS.lookup z with
  | some (.tup [.int a, .int b]) => some (a, b)
  | _ => none
def moved (r c : Int) : D → Option D
  | .str z => (offs z).map fun p => .tup [.int (r + p.1), .int (c + p.2)]
  | _ => none
def sp_moved_cell : DSp := fun ds M Q E => ∃ r c d, ds = [.tup [.int r, .int c], d] ∧ ty d ∧ (∀ x, moved r c d = some x → Q x M) ∧ (moved r c d = none → E "InvalidMirror" [("value", d), ("code", .str "InvalidMirror")] M)
def sp__law_bag : DSp := spBag
def sp__law_draw : DSp := spDraw
def sp0__law_draw : DSp := spDraw0
def sp__law_pick : DSp := spPick
def sp__law_same : DSp := spSame 6
abbrev fld (fs : List (Str × D)) (x : Str) : Option D := fs.lookup x
/-- the attributes of an error beside its code -/
def attrs (fs : List (Str × D)) (code : Str) : Option (List D) :=
  if code = "InvalidChart" then (match fld fs "row", fld fs "column" with | some a, some b => some [a, b] | _, _ => none)
  else if code = "InvalidText" then (match fld fs "line", fld fs "why" with | some a, some b => some [a, b] | _, _ => none)
  else if code ∈ (["InvalidWind", "InvalidRegion", "InvalidPath", "InvalidSquall"] : List Str) then (match fld fs "at" with | some a => some [a] | _ => none)
  else if code = "TooMany" then (match fld fs "most" with | some a => some [a] | _ => none)
  else if code ∈ (["InvalidHeights", "OtherChart", "Ended"] : List Str) then some []
  else (match fld fs "value" with | some a => some [a] | _ => none)
def sp__law_field (xn : List Str) : DSp := fun ds M Q _ => ∃ n fs code l, ds = [.exc n fs] ∧ n ∈ xn ∧ fld fs "code" = some (.str code) ∧ PyData.strOk code = true ∧ attrs fs code = some l ∧ Q (.tup l) M
/-- what a call told, or the error it raised -/
def errT (n : Str) (fs : List (Str × D)) (d : D) : Prop := ∃ code l, fld fs "code" = some (.str code) ∧ PyData.strOk code = true ∧ attrs fs code = some l ∧ noXL l = true ∧ l.length ≤ 5 ∧ d = .tup (.str "no" :: .str code :: l)
def TT__law_try (xn : List Str) : DAct → Mu → DK → Prop := fun tl M Q => ∀ (E0 : DXK) (Q0 : DK), (∀ n fs M' d, n ∈ xn → errT n fs d → Q d M' → E0 n fs M') → (∀ d M', Q (.tup [.str "told", d]) M' → Q0 d M') → tl E0 M Q0
def toll (d : D) : Prop := d = .non ∨ ∃ i : Int, d = .int i ∧ 0 ≤ i ∧ i ≤ 99
def gust (ts : List D) : Prop := ts.length = 5 ∧ ∀ t ∈ ts, toll t
def sp__law_gust : DSp := fun ds M Q _ => ∃ b, ds = [.ref b] ∧ M b = some .bag ∧ ∀ ts, gust ts → Q (.tup ts) M
def pairD (a b : Int) : D := .tup [.int a, .int b]
def movesL : List (Int × Int) := [(0, 0), (-1, 0), (0, 1), (1, 0), (0, -1)]
def sp__law_moves : DSp := fun ds M Q _ => ds = [] ∧ Q (.lst 0 (movesL.map fun p => pairD p.1 p.2)) M
end HS
/-! Shared by the laws: readings. Printed by a program of mine. -/
namespace HS
open PySem L2 DL
def t_is_number : DS := (dRet (dAndV (dCB isiD (dCons (dVar 0) (dCons (dC (.ty "int")) dNil))) (dAndV (dNotV (dCB isiD (dCons (dVar 0) (dCons (dC (.ty "bool")) dNil)))) (dChain leD leD (dVar 1) (dVar 0) (dVar 2)))))
def t_is_wind : DS := (dSeq (dIfS (dOr (dNot (dB (dCB isiD (dCons (dVar 0) (dCons (dC (.ty "tuple")) dNil))))) (dB (dOp neD (dCB lenD (dCons (dVar 0) dNil)) (dCB lenD (dCons (dC (.tup [(.str "stay"), (.str "north"), (.str "east"), (.str "south"), (.str "west")])) dNil))))) (dRet (dC (.bl false))) dNext) (dRet (dCB allD (dCons (dLc (dIt (dVar 0)) (gNm 1) dYes (dOrV (dOp isND (dVar 1) (dC .non)) (dCall sp_is_number DX0 (dCons (dVar 1) (dCons (dC (.int 0)) (dCons (dC (.int 99)) dNil))))) [1]) dNil))))
def t_moved_cell (E : DXK) : DS := (dSeq (dIfS (dOr (dNot (dB (dCB isiD (dCons (dVar 1) (dCons (dC (.ty "str")) dNil))))) (dB (dInK true kv_OFFSETS (dVar 1)))) (dRaise E "InvalidMirror" 1 fl_InvalidMirror (dCons (dVar 1) dNil)) dNext) (dSeq (dAsg (dIxK kv_OFFSETS (dVar 1)) (gTp (gsCons (gNm 2) (gsCons (gNm 3) gsNil)) 2)) (dRet (dTup (dCons (dOp addD (dOp ixD (dVar 0) (dC (.int 0))) (dVar 2)) (dCons (dOp addD (dOp ixD (dVar 0) (dC (.int 1))) (dVar 3)) dNil))))))
def t__law_bag_b1 : DS := (dAsg (dOp modD (dCB intD (dCons (dOp addD (dOp mulD (dVar 3) (dC (.int 6947))) (dVar 2)) dNil)) (dC (.int 2147483423))) (gNm 3))
def t__law_bag : DS := (dSeq (dAsg (dLc (dIt (dSl (dVar 0) dNoPart (dPart (dC (.int 63))))) (gNm 2) dYes (dCB intD (dCons (dVar 2) dNil)) [2]) (gNm 1)) (dSeq (dAsg (dOp addD (dC (.int 120310)) (dOp mulD (dC (.int 61)) (dCB lenD (dCons (dVar 1) dNil)))) (gNm 3)) (dSeq (dFor (dIt (dVar 1)) (gNm 2) t__law_bag_b1) (dRet (dBag (dCons (dVar 1) (dCons (dC (.int 0)) (dCons (dC (.int 0)) (dCons (dVar 3) dNil)))))))))
def t__law_draw : DS := (dSeq (dIfS (dB (dOp ltD (dOp ixD (dVar 0) (dC (.int 2))) (dC (.int 2)))) (dSeq (dAsg (dOp addD (dOp ixD (dVar 0) (dC (.int 1))) (dC (.int 1))) (gIx (dVar 0) (dC (.int 1)))) (dSeq (dAsg (dOp addD (dOp ixD (dVar 0) (dC (.int 3))) (dOp mulD (dOp ixD (dVar 0) (dC (.int 1))) (dC (.int 9241)))) (gNm 2)) (dSeq (dIfS (dB (dOp leD (dOp ixD (dVar 0) (dC (.int 1))) (dCB lenD (dCons (dOp ixD (dVar 0) (dC (.int 0))) dNil)))) (dAsg (dOp ixD (dOp ixD (dVar 0) (dC (.int 0))) (dOp subD (dOp ixD (dVar 0) (dC (.int 1))) (dC (.int 1)))) (gNm 2)) dNext) (dSeq (dIfS (dOr (dB (dOp gtD (dOp ixD (dVar 0) (dC (.int 1))) (dCB lenD (dCons (dOp ixD (dVar 0) (dC (.int 0))) dNil)))) (dB (dOp ltD (dVar 2) (dOp powD (dC (.int 10)) (dC (.int 18)))))) (dSeq (dAsg (dOp modD (dCB intD (dCons (dOp addD (dOp addD (dOp mulD (dVar 2) (dC (.int 43051))) (dOp mulD (dOp ixD (dVar 0) (dC (.int 1))) (dC (.int 39119)))) (dOp ixD (dVar 0) (dC (.int 3)))) dNil)) (dC (.int 2147483587))) (gNm 3)) (dSeq (dAsg (dOp modD (dCB intD (dCons (dOp addD (dOp mulD (dVar 3) (dVar 3)) (dOp mulD (dOp ixD (dVar 0) (dC (.int 1))) (dC (.int 60607)))) dNil)) (dC (.int 998244353))) (gNm 4)) (dRet (dOp modD (dOp fdivD (dOp modD (dCB intD (dCons (dOp addD (dOp mulD (dVar 4) (dC (.int 46819))) (dVar 3)) dNil)) (dC (.int 2147483549))) (dC (.int 23))) (dVar 1))))) dNext) (dAsg (dVar 2) (gIx (dVar 0) (dC (.int 2)))))))) dNext) (dSeq (dAsg (dOp modD (dCB intD (dCons (dOp ixD (dVar 0) (dC (.int 2))) dNil)) (dVar 1)) (gNm 5)) (dSeq (dAsg (dOp fdivD (dCB intD (dCons (dOp ixD (dVar 0) (dC (.int 2))) dNil)) (dVar 1)) (gIx (dVar 0) (dC (.int 2)))) (dRet (dVar 5)))))
def t__law_pick : DS := (dRet (dOp ixD (dVar 1) (dCall sp__law_draw DX0 (dCons (dVar 0) (dCons (dCB lenD (dCons (dVar 1) dNil)) dNil)))))
def t__law_same (sp__law_same : DSp) : DS := (dSeq (dIfS (dOr (dB (dOp isND (dVar 1) (dC .non))) (dB (dOp isND (dVar 0) (dC .non)))) (dRet (dAndV (dOp isND (dVar 1) (dC .non)) (dOp isND (dVar 0) (dC .non)))) dNext) (dSeq (dIfS (dOr (dB (dCB isiD (dCons (dVar 1) (dCons (dTup (dCons (dC (.ty "list")) (dCons (dC (.ty "tuple")) dNil))) dNil)))) (dB (dCB isiD (dCons (dVar 0) (dCons (dTup (dCons (dC (.ty "list")) (dCons (dC (.ty "tuple")) dNil))) dNil))))) (dSeq (dIfS (dOr (dB (dOp neD (dCB isiD (dCons (dVar 1) (dCons (dC (.ty "list")) dNil))) (dCB isiD (dCons (dVar 0) (dCons (dC (.ty "list")) dNil))))) (dB (dOp neD (dCB isiD (dCons (dVar 1) (dCons (dC (.ty "tuple")) dNil))) (dCB isiD (dCons (dVar 0) (dCons (dC (.ty "tuple")) dNil)))))) (dRet (dC (.bl false))) dNext) (dRet (dAndV (dOp eqD (dCB lenD (dCons (dVar 0) dNil)) (dCB lenD (dCons (dVar 1) dNil))) (dCB allD (dCons (dLc (dZip (dCons (dVar 0) (dCons (dVar 1) dNil))) (gTp (gsCons (gNm 2) (gsCons (gNm 3) gsNil)) 2) dYes (dCall sp__law_same DX0 (dCons (dVar 2) (dCons (dVar 3) dNil))) [2, 3]) dNil))))) dNext) (dSeq (dIfS (dOr (dB (dOp neD (dCB isiD (dCons (dVar 1) (dCons (dC (.ty "bool")) dNil))) (dCB isiD (dCons (dVar 0) (dCons (dC (.ty "bool")) dNil))))) (dB (dOp neD (dCB isiD (dCons (dVar 1) (dCons (dC (.ty "str")) dNil))) (dCB isiD (dCons (dVar 0) (dCons (dC (.ty "str")) dNil)))))) (dRet (dC (.bl false))) dNext) (dRet (dAndV (dOp eqD (dCB isiD (dCons (dVar 1) (dCons (dC (.ty "int")) dNil))) (dCB isiD (dCons (dVar 0) (dCons (dC (.ty "int")) dNil)))) (dOp eqD (dVar 0) (dVar 1)))))))
def t__law_field (xn : List Str) : DS := (dSeq (dIfS (dB (dOp eqD (dXf xn "code" (dVar 0)) (dC (.str "InvalidChart")))) (dRet (dTup (dCons (dXf xn "row" (dVar 0)) (dCons (dXf xn "column" (dVar 0)) dNil)))) dNext) (dSeq (dIfS (dB (dOp eqD (dXf xn "code" (dVar 0)) (dC (.str "InvalidText")))) (dRet (dTup (dCons (dXf xn "line" (dVar 0)) (dCons (dXf xn "why" (dVar 0)) dNil)))) dNext) (dSeq (dIfS (dB (dOp inD (dXf xn "code" (dVar 0)) (dTup (dCons (dC (.str "InvalidWind")) (dCons (dC (.str "InvalidRegion")) (dCons (dC (.str "InvalidPath")) (dCons (dC (.str "InvalidSquall")) dNil))))))) (dRet (dTup (dCons (dXf xn "at" (dVar 0)) dNil))) dNext) (dSeq (dIfS (dB (dOp eqD (dXf xn "code" (dVar 0)) (dC (.str "TooMany")))) (dRet (dTup (dCons (dXf xn "most" (dVar 0)) dNil))) dNext) (dRet (dIf (dB (dOp inD (dXf xn "code" (dVar 0)) (dTup (dCons (dC (.str "InvalidHeights")) (dCons (dC (.str "OtherChart")) (dCons (dC (.str "Ended")) dNil)))))) (dTup dNil) (dTup (dCons (dXf xn "value" (dVar 0)) dNil))))))))
def t__law_try (xn : List Str) (f : Addr) (tl : DAct) : DS := (dTry2 xn 1 2 (fun E' => (dRet (dTup (dCons (dC (.str "told")) (dCons (dAct f tl E') dNil))))) (dRet (dOp addD (dTup (dCons (dC (.str "no")) (dCons (dXf xn "code" (dVar 1)) dNil))) (dCall (sp__law_field xn) DX0 (dCons (dVar 1) dNil)))))
def t__law_gust : DS := (dRet (dCB tupD (dCons (dLc (dRng1 (dCons (dC (.int 5)) dNil)) (gNm 1) dYes (dCall sp__law_pick DX0 (dCons (dVar 0) (dCons (dLst (dCons (dC .non) (dCons (dC (.int 0)) (dCons (dC (.int 0)) (dCons (dC (.int 0)) (dCons (dC (.int 1)) (dCons (dC (.int 1)) (dCons (dC (.int 2)) (dCons (dC (.int 3)) (dCons (dC (.int 4)) (dCons (dC (.int 99)) (dCons (dCall sp__law_draw DX0 (dCons (dVar 0) (dCons (dC (.int 100)) dNil))) dNil)))))))))))) dNil))) [1]) dNil)))
def t__law_moves : DS := (dRet (dLst (dCons (dTup (dCons (dC (.int 0)) (dCons (dC (.int 0)) dNil))) (dCons (dTup (dCons (dNeg (dC (.int 1))) (dCons (dC (.int 0)) dNil))) (dCons (dTup (dCons (dC (.int 0)) (dCons (dC (.int 1)) dNil))) (dCons (dTup (dCons (dC (.int 1)) (dCons (dC (.int 0)) dNil))) (dCons (dTup (dCons (dC (.int 0)) (dCons (dNeg (dC (.int 1))) dNil))) dNil)))))))
end HS
/-! The shared defs keep their promises, over data. -/
namespace HS
open PySem L2 DL
theorem pure_is_number : ∀ ds M Q E, sp_is_number ds M Q E → ds.length = (["value", "least", "most"] : List Str).length ∧ t_is_number { nx := fun _ M' => Q .non M', rt := Q } (startD ["value", "least", "most"] ds) M := by
  rintro ds M Q E ⟨v, lo, hi, rfl, hty, q⟩
  refine ⟨rfl, ?_⟩
  cases v <;> first | (cases (show false = true from hty); done) | skip
  all_goals simp [t_is_number, inst, tyN, isA, tyNames]
  all_goals simp [isNum] at q
  all_goals first | exact q | skip
  case int i =>
    split
    · rename_i h; simpa [h] using q
    · rename_i h; simpa [h] using q
theorem all_map {α : Type} (l : List α) (p : α → Bool) : (l.map p).all id = l.all p := by simp
theorem pure_is_wind : ∀ ds M Q E, sp_is_wind ds M Q E → ds.length = (["value"] : List Str).length ∧ t_is_wind { nx := fun _ M' => Q .non M', rt := Q } (startD ["value", "toll"] ds) M := by
  rintro ds M Q E ⟨v, rfl, ⟨hty, ht⟩, q⟩
  refine ⟨rfl, ?_⟩
  cases v <;> first | (cases (show false = true from hty); done) | skip
  all_goals simp [t_is_wind, inst, tyN, isA, tyNames]
  all_goals first | exact q | skip
  case tup xs =>
    obtain ⟨h1, h2⟩ := ht xs rfl
    by_cases hl : xs.length = 5
    · simp [hl]
      simp only [isWind, hl, decide_true, Bool.true_and] at q
      refine compi_map (f := fun x => .bl (isToll x)) xs _ _ (fun x hx Q h => ?_) (by simp; omega) ?_
      · have hx' := h2 x hx
        simp [wipeD]
        cases e : isNon x with
        | true => simpa [isToll, e] using h
        | false => simp; exact ⟨x, 0, 99, rfl, hx', by simpa [isToll, e] using h⟩
      · refine ⟨xs.map isToll, by simp, ?_⟩
        simpa using q
    · rw [if_neg (by omega)]
      simpa [isWind, hl] using q
theorem cut_all {α : Type} {xs : List α} {n : Nat} (h : xs.length ≤ n) : cut xs none (some (n : Int)) = xs := by
  unfold cut
  rw [HT.sIx_nat, HT.sIx_none, List.drop_zero, Nat.min_eq_right h, Nat.sub_zero, List.take_length]
theorem pure__law_bag : ∀ ds M Q E, sp__law_bag ds M Q E → ds.length = (["_law_script"] : List Str).length ∧ t__law_bag { nx := fun _ M' => Q .non M', rt := Q } (startD ["_law_script", "_law_cells_z", "_law_cell_z", "_law_mark"] ds) M := by
  rintro ds M Q E ⟨ns, rfl, hl, q⟩
  refine ⟨rfl, ?_⟩
  unfold t__law_bag
  refine s_set (v := .lst 0 (ns.map D.int)) (fun K hK => ?_) ?_
  · simp only [dLc, dIt, dSl, dVar, dNoPart, dPart, dC, startD, slD]
    show compi _ _ _ _ (cut (ns.map D.int) none (some ((63 : Nat) : Int))) _ _ _
    rw [cut_all (by simpa using hl)]
    refine compi_of (f := D.int) _ _ _ (fun n _ Q h => ?_) (by simp; omega) (by simpa using hK)
    simpa [wipeD] using h
  refine s_set (v := .int (120310 + 61 * ns.length)) (fun K hK => ?_) ?_
  · simp
    exact ⟨.inl ⟨by decide, by decide⟩, hK⟩
  refine s_for (ds := ns.map D.int) (fun K hK => by simpa using hK) ?_
  have key : ∀ (l : List Int) (o : Option D) (m : Int), fori (gNm 2) t__law_bag_b1 (l.map D.int)
      { nx := dRet (dBag (dCons (dVar 1) (dCons (dC (.int 0)) (dCons (dC (.int 0)) (dCons (dVar 3) dNil))))) { nx := fun _ M' => Q .non M', rt := Q }, rt := Q } [some (.scr ns), some (.lst 0 (ns.map D.int)), o, some (.int m)] M := by
    intro l
    induction l with
    | nil =>
      intro o m
      refine x_nil ?_
      simp only [dRet, dBag, dCons, dVar, dC, dNil]
      exact ⟨⟨ns, 0, 0, m, rfl, hl, by decide⟩, q⟩
    | cons n l ih =>
      intro o m
      refine x_cons ?_
      refine x_set (v := .int ((m * 6947 + n) % 2147483423)) (fun K hK => ?_) ?_
      · simp
        exact ⟨.inr ⟨by decide, by decide⟩, hK⟩
      · exact ih _ _
  exact key ns none _
theorem at0 {α : Type} {a b c d : α} : atI [a, b, c, d] 0 = some a := rfl
theorem at1 {α : Type} {a b c d : α} : atI [a, b, c, d] 1 = some b := rfl
theorem at2 {α : Type} {a b c d : α} : atI [a, b, c, d] 2 = some c := rfl
theorem at3 {α : Type} {a b c d : α} : atI [a, b, c, d] 3 = some d := rfl
theorem ix1 {α : Type} {a b c d : α} : ixN [a, b, c, d].length 1 = some 1 := rfl
theorem ix2 {α : Type} {a b c d : α} : ixN [a, b, c, d].length 2 = some 2 := rfl
theorem pure__law_draw : ∀ ds M Q E, sp0__law_draw ds M Q E → ds.length = (["_law_bag_here", "_law_many"] : List Str).length ∧ t__law_draw { nx := fun _ M' => Q .non M', rt := Q } (startD ["_law_bag_here", "_law_many", "_law_cell_z", "_law_mixed", "_law_second", "_law_digit"] ds) M := by
  rintro ds M Q E ⟨b, many, cs, i, r, m, rfl, hM, hi, ⟨h1, h2⟩, q⟩
  refine ⟨rfl, ?_⟩
  unfold t__law_draw
  have fin : ∀ (i' : Int) (z : Int) (o : Option D) (M1 : Mu), M1 = setM M b (.lst [.lst 0 (cs.map D.int), .int i', .int z, .int m]) → 0 ≤ i' →
      dSeq (dAsg (dOp modD (dCB intD (dCons (dOp ixD (dVar 0) (dC (.int 2))) dNil)) (dVar 1)) (gNm 5))
        (dSeq (dAsg (dOp fdivD (dCB intD (dCons (dOp ixD (dVar 0) (dC (.int 2))) dNil)) (dVar 1)) (gIx (dVar 0) (dC (.int 2)))) (dRet (dVar 5)))
        { nx := fun _ M' => Q .non M', rt := Q } [some (.ref b), some (.int many), o, none, none, none] M1 := by
    intro i' z o M1 e hi'
    have hM1 : M1 b = some (.lst [.lst 0 (cs.map D.int), .int i', .int z, .int m]) := by rw [e]; exact setM_same
    refine s_set (v := .int (z % many)) (fun K hK => by simp [hM1, at2]; exact ⟨h1, hK⟩) ?_
    refine s_ix rfl hM1 rfl (v := .int (z / many)) (fun K hK => by simp [hM1, at2]; exact ⟨⟨h1, h2⟩, hK⟩) ?_
    refine x_ret (v := .int (z % many)) (fun K hK => by simpa using hK) ?_
    show Q _ _
    rw [e, setM_set]
    exact q _ _ _ (Int.emod_nonneg _ (by omega)) (Int.emod_lt_of_pos _ h1) hi'
  refine s_if (b := decide (r < 2)) (fun K hK => ?_) (fun hr => ?_) (fun hr => ?_)
  · simp [hM, at2]; exact hK
  · refine s_ix rfl hM rfl (v := .int (i + 1)) (fun K hK => by simp [hM, at1]; exact hK) ?_
    show dSeq _ _ _ _ (setM M b (.lst [.lst 0 (cs.map D.int), .int (i + 1), .int r, .int m]))
    generalize hM1 : setM M b (.lst [.lst 0 (cs.map D.int), .int (i + 1), .int r, .int m]) = M1
    have e1 : M1 b = some (.lst [.lst 0 (cs.map D.int), .int (i + 1), .int r, .int m]) := by rw [← hM1]; exact setM_same
    refine s_set (v := .int (m + (i + 1) * 9241)) (fun K hK => by simp [e1, at1, at3]; exact ⟨.inr ⟨by decide, by decide⟩, hK⟩) ?_
    -- the cell: one of the script, or a mixed one
    have rest : ∀ (cell : Int), dSeq (dIfS (dOr (dB (dOp gtD (dOp ixD (dVar 0) (dC (.int 1))) (dCB lenD (dCons (dOp ixD (dVar 0) (dC (.int 0))) dNil)))) (dB (dOp ltD (dVar 2) (dOp powD (dC (.int 10)) (dC (.int 18))))))
        (dSeq (dAsg (dOp modD (dCB intD (dCons (dOp addD (dOp addD (dOp mulD (dVar 2) (dC (.int 43051))) (dOp mulD (dOp ixD (dVar 0) (dC (.int 1))) (dC (.int 39119)))) (dOp ixD (dVar 0) (dC (.int 3)))) dNil)) (dC (.int 2147483587))) (gNm 3))
          (dSeq (dAsg (dOp modD (dCB intD (dCons (dOp addD (dOp mulD (dVar 3) (dVar 3)) (dOp mulD (dOp ixD (dVar 0) (dC (.int 1))) (dC (.int 60607)))) dNil)) (dC (.int 998244353))) (gNm 4))
            (dRet (dOp modD (dOp fdivD (dOp modD (dCB intD (dCons (dOp addD (dOp mulD (dVar 4) (dC (.int 46819))) (dVar 3)) dNil)) (dC (.int 2147483549))) (dC (.int 23))) (dVar 1))))) dNext)
        (dAsg (dVar 2) (gIx (dVar 0) (dC (.int 2))))
        { nx := (dSeq (dAsg (dOp modD (dCB intD (dCons (dOp ixD (dVar 0) (dC (.int 2))) dNil)) (dVar 1)) (gNm 5)) (dSeq (dAsg (dOp fdivD (dCB intD (dCons (dOp ixD (dVar 0) (dC (.int 2))) dNil)) (dVar 1)) (gIx (dVar 0) (dC (.int 2)))) (dRet (dVar 5))) { nx := fun _ M' => Q .non M', rt := Q }), rt := Q } [some (.ref b), some (.int many), some (.int cell), none, none, none] M1 := by
      intro cell
      refine s_if (b := decide ((cs.length : Int) < i + 1) || decide (cell < 10 ^ 18)) (fun K hK => ?_) (fun _ => ?_) (fun _ => ?_)
      · simp [e1, at1, at0]
        have hp : CPow 10 18 := ⟨by decide, by decide, by decide⟩
        split
        · rename_i h; simpa [h] using hK
        · rename_i h; exact ⟨hp, by simpa [h] using hK⟩
      · refine s_set (v := .int ((cell * 43051 + (i + 1) * 39119 + m) % 2147483587)) (fun K hK => by simp [e1, at1, at3]; exact ⟨.inr ⟨by decide, by decide⟩, .inr ⟨by decide, by decide⟩, hK⟩) ?_
        generalize hx : (cell * 43051 + (i + 1) * 39119 + m) % 2147483587 = x
        have hx1 : 0 ≤ x ∧ x < 2147483587 := by omega
        refine s_set (v := .int ((x * x + (i + 1) * 60607) % 998244353)) (fun K hK => by simp [e1, at1, at3]; exact ⟨.inl ⟨by omega, by omega⟩, .inr ⟨by decide, by decide⟩, hK⟩) ?_
        generalize hy : (x * x + (i + 1) * 60607) % 998244353 = y
        refine x_ret (v := .int ((y * 46819 + x) % 2147483549 / 23 % many)) (fun K hK => by simp; exact ⟨.inr ⟨by decide, by decide⟩, h1, hK⟩) ?_
        show Q _ _
        rw [← hM1]
        exact q _ (i + 1) r (Int.emod_nonneg _ (by omega)) (Int.emod_lt_of_pos _ h1) (by omega)
      · refine s_next ?_
        refine x_ix rfl e1 rfl (v := .int cell) (fun K hK => by simpa using hK) ?_
        refine fin (i + 1) cell _ _ ?_ (by omega)
        rw [← hM1, setM_set]; rfl
    refine s_if (b := decide (i + 1 ≤ (cs.length : Int))) (fun K hK => by simp [e1, at1, at0]; exact hK) (fun h => ?_) (fun _ => s_next (rest _))
    have h' : i + 1 ≤ (cs.length : Int) := by simpa using h
    have hc : atI (cs.map D.int) i = some (.int (cs[i.toNat]'(by omega))) := by
      unfold atI ixN
      rw [if_pos hi, if_pos (by simp; omega)]
      show (cs.map D.int)[i.toNat]? = _
      rw [List.getElem?_map, List.getElem?_eq_getElem (by omega)]; rfl
    refine x_set (v := .int (cs[i.toNat]'(by omega))) (fun K hK => by simp only [dOp, dVar, dC, ixD, subD, List.set, startD, List.map, List.getElem?_cons_zero, e1, at0, at1]; simp [e1, at0, at1, hc]; exact hK) ?_
    exact rest _
  · refine s_next ?_
    refine fin i r none M ?_ hi
    funext x
    unfold setM
    split
    · rename_i h; rw [h, hM]
    · rfl
theorem offs_cases (z : Str) : kv_OFFSETS.lookup z = none ∨ ∃ a b, kv_OFFSETS.lookup z = some (.tup [.int a, .int b]) := by
  simp only [kv_OFFSETS, List.lookup]
  repeat' split
  all_goals first | exact .inl rfl | exact .inr ⟨_, _, rfl⟩
theorem pyL_map : ∀ xs : List D, pyL xs = xs.map py
  | [] => rfl
  | x :: xs => by rw [pyL, pyL_map xs]; rfl
theorem pure_moved_cell : ∀ ds M Q E, sp_moved_cell ds M Q E → ds.length = (["cell", "direction"] : List Str).length ∧ t_moved_cell E { nx := fun _ M' => Q .non M', rt := Q } (startD ["cell", "direction", "down", "right"] ds) M := by
  rintro ds M Q E ⟨r, c, d, rfl, hty, q1, q2⟩
  refine ⟨rfl, ?_⟩
  cases d <;> first | (cases (show false = true from hty); done) | skip
  all_goals simp [t_moved_cell, inst, tyN, isA, tyNames]
  all_goals first | exact q2 rfl | skip
  case str z =>
    rcases offs_cases z with e | ⟨a, b, e⟩
    · have : moved r c (.str z) = none := by simp [moved, offs, e]
      simpa [e, mkF, fl_InvalidMirror] using q2 this
    · have : moved r c (.str z) = some (.tup [.int (r + a), .int (c + b)]) := by simp [moved, offs, e]
      simpa [e, atI, ixN] using q1 _ this
theorem pure__law_pick : ∀ ds M Q E, sp__law_pick ds M Q E → ds.length = (["_law_bag_here", "_law_some"] : List Str).length ∧ t__law_pick { nx := fun _ M' => Q .non M', rt := Q } (startD ["_law_bag_here", "_law_some"] ds) M := by
  rintro ds M Q E (⟨b, r, xs, rfl, hb, ⟨h1, h2⟩, q⟩ | ⟨b, xs, rfl, hb, ⟨h1, h2⟩, q⟩ | ⟨b, z, rfl, hb, ⟨h1, h2⟩, q⟩)
  · refine ⟨rfl, ?_⟩
    simp [t__law_pick]
    refine ⟨b, xs.length, rfl, hb, ⟨by omega, by omega⟩, fun n h3 h4 => ?_⟩
    obtain ⟨x, e, hx⟩ := atI_some h3 h4
    simp only [e]; exact q x hx
  · refine ⟨rfl, ?_⟩
    simp [t__law_pick]
    refine ⟨b, xs.length, rfl, hb, ⟨by omega, by omega⟩, fun n h3 h4 => ?_⟩
    obtain ⟨x, e, hx⟩ := atI_some h3 h4
    simp only [e]; exact q x hx
  · refine ⟨rfl, ?_⟩
    simp [t__law_pick]
    refine ⟨by omega, b, z.length, rfl, hb, ⟨by omega, by omega⟩, fun n h3 h4 => ⟨by omega, ?_⟩⟩
    obtain ⟨x, e, hx⟩ := atI_some (xs := z.cps.toList) h3 (by simpa [Str.length] using h4)
    simp only [e]; exact q x hx
theorem pure__law_same (n : Nat) : ∀ ds M Q E, spSame n ds M Q E → ds.length = (["_law_found", "_law_due"] : List Str).length ∧ t__law_same (spPrev n) { nx := fun _ M' => Q .non M', rt := Q } (startD ["_law_found", "_law_due", "_law_one", "_law_two"] ds) M := by
  rintro ds M Q E ⟨x, y, rfl, hx, hy, q⟩
  refine ⟨rfl, ?_⟩
  cases x <;> cases y <;> first
    | (exfalso; cases n <;> exact Bool.noConfusion (show false = true from hx))
    | (exfalso; cases n <;> exact Bool.noConfusion (show false = true from hy))
    | skip
  all_goals simp [t__law_same, inst, tyN, isA, tyNames, tysOf, DL.isNon]
  all_goals first
    | exact q _ (by simp [py])
    | (refine q _ ?_; rw [beq_iff_eq]; exact ⟨fun h => by rw [h], fun h => by simpa [py] using h⟩)
    | skip
  case lst.lst r1 xs r2 ys =>
    cases n with
    | zero => cases (show false = true from hx)
    | succ n =>
      obtain ⟨h1, h2⟩ := gd_lst hx
      obtain ⟨h3, h4⟩ := gd_lst hy
      split
      · rename_i hl
        have hl' : xs.length = ys.length := by omega
        refine compi_rel (P := fun z d => ∀ x y, z = .tup [x, y] → ∃ k : Bool, d = .bl k ∧ (k = true ↔ py x = py y)) _ _ _ (fun z hz Q hQ => ?_) (by simp [zipD]; omega) (fun ds hp => ?_)
        · unfold zipD at hz
          obtain ⟨p, hp, rfl⟩ := List.mem_map.mp hz
          obtain ⟨m1, m2⟩ := List.of_mem_zip hp
          simp [wipeD]
          exact ⟨_, _, rfl, h2 _ m1, h4 _ m2, fun k hk => hQ _ fun x y e => by
            injection e with e; injection e with e1 e2; injection e2 with e2 _
            exact ⟨k, rfl, by rw [hk, e1, e2]⟩⟩
        · obtain ⟨bs, rfl, hb⟩ := same_all hl' hp
          exact ⟨bs, by simp, q _ (by rw [hb]; simp [py, pyL_map])⟩
      · rename_i hl
        refine q _ ?_
        simp [py, pyL_map]
        intro e
        exact hl (by have := congrArg List.length e; simp at this; omega)
  case tup.tup xs ys =>
    cases n with
    | zero => cases (show false = true from hx)
    | succ n =>
      obtain ⟨h1, h2⟩ := gd_tup hx
      obtain ⟨h3, h4⟩ := gd_tup hy
      split
      · rename_i hl
        have hl' : xs.length = ys.length := by omega
        refine compi_rel (P := fun z d => ∀ x y, z = .tup [x, y] → ∃ k : Bool, d = .bl k ∧ (k = true ↔ py x = py y)) _ _ _ (fun z hz Q hQ => ?_) (by simp [zipD]; omega) (fun ds hp => ?_)
        · unfold zipD at hz
          obtain ⟨p, hp, rfl⟩ := List.mem_map.mp hz
          obtain ⟨m1, m2⟩ := List.of_mem_zip hp
          simp [wipeD]
          exact ⟨_, _, rfl, h2 _ m1, h4 _ m2, fun k hk => hQ _ fun x y e => by
            injection e with e; injection e with e1 e2; injection e2 with e2 _
            exact ⟨k, rfl, by rw [hk, e1, e2]⟩⟩
        · obtain ⟨bs, rfl, hb⟩ := same_all hl' hp
          exact ⟨bs, by simp, q _ (by rw [hb]; simp [py, pyL_map])⟩
      · rename_i hl
        refine q _ ?_
        simp [py, pyL_map]
        intro e
        exact hl (by have := congrArg List.length e; simp at this; omega)
theorem pure__law_field (xn : List Str) : ∀ ds M Q, sp__law_field xn ds M Q DX0 → ds.length = (["_law_e"] : List Str).length ∧ t__law_field xn { nx := fun _ M' => Q .non M', rt := Q } (startD ["_law_e"] ds) M := by
  rintro ds M Q ⟨n, fs, code, l, rfl, hn, hc, ok, ha, q⟩
  refine ⟨rfl, ?_⟩
  have hc' : fs.lookup (Str.ofString "code") = some (.str code) := hc
  unfold t__law_field
  have eqc : ∀ (z : Str) (K : Bool → Mu → Prop), K (code == z) M → dB (dOp eqD (dXf xn "code" (dVar 0)) (dC (.str z))) [some (.exc n fs)] M K := by
    intro z K hK
    simp [hn, hc']; exact hK
  have inc : ∀ (zs : List Str) (K : DK), K (.bl (decide (code ∈ zs))) M → inD (.str code) (.tup (zs.map D.str)) M K := by
    intro zs K hK
    refine ⟨⟨rfl, by simp [flatD]⟩, ?_⟩
    have e : inB (.str code) (zs.map D.str) = decide (code ∈ zs) := by
      simp only [inB, List.any_map]
      rw [Bool.eq_iff_iff]
      simp
    rw [e]; exact hK
  have xf : ∀ (f : Str) (d : D) (K : DK), fs.lookup f = some d → K d M → dXf xn f (dVar 0) [some (.exc n fs)] M K := by
    intro f d K hf hK
    simp [hn, hf]; exact hK
  unfold attrs at ha
  refine s_if (b := code == "InvalidChart") (fun K hK => eqc _ K hK) (fun h => ?_) (fun h => s_next ?_)
  · rw [if_pos (by simpa using h)] at ha
    split at ha
    · rename_i a b h1 h2
      cases ha
      have h1' : fs.lookup (Str.ofString "row") = some a := h1
      have h2' : fs.lookup (Str.ofString "column") = some b := h2
      exact x_ret (v := .tup [a, b]) (fun K hK => by simp [hn, h1', h2']; exact hK) q
    · cases ha
  rw [if_neg (by simpa using h)] at ha
  refine s_if (b := code == "InvalidText") (fun K hK => eqc _ K hK) (fun h => ?_) (fun h => s_next ?_)
  · rw [if_pos (by simpa using h)] at ha
    split at ha
    · rename_i a b h1 h2
      cases ha
      have h1' : fs.lookup (Str.ofString "line") = some a := h1
      have h2' : fs.lookup (Str.ofString "why") = some b := h2
      exact x_ret (v := .tup [a, b]) (fun K hK => by simp [hn, h1', h2']; exact hK) q
    · cases ha
  rw [if_neg (by simpa using h)] at ha
  refine s_if (b := decide (code ∈ (["InvalidWind", "InvalidRegion", "InvalidPath", "InvalidSquall"] : List Str))) (fun K hK => xf "code" _ _ hc ⟨by simp, inc ["InvalidWind", "InvalidRegion", "InvalidPath", "InvalidSquall"] _ hK⟩) (fun h => ?_) (fun h => s_next ?_)
  · rw [if_pos (by simpa using h)] at ha
    split at ha
    · rename_i a h1
      cases ha
      refine xf "at" a _ h1 ?_
      exact ⟨by simp, q⟩
    · cases ha
  rw [if_neg (by simpa using h)] at ha
  refine s_if (b := code == "TooMany") (fun K hK => eqc _ K hK) (fun h => ?_) (fun h => s_next ?_)
  · rw [if_pos (by simpa using h)] at ha
    split at ha
    · rename_i a h1
      cases ha
      refine xf "most" a _ h1 ?_
      exact ⟨by simp, q⟩
    · cases ha
  rw [if_neg (by simpa using h)] at ha
  refine xf "code" _ _ hc ⟨by simp, inc ["InvalidHeights", "OtherChart", "Ended"] _ ?_⟩
  show if decide _ = true then _ else _
  split
  · rename_i h
    rw [if_pos (by simpa using h)] at ha
    cases ha
    exact ⟨by simp, q⟩
  · rename_i h
    rw [if_neg (by simpa using h)] at ha
    split at ha
    · rename_i a h1
      cases ha
      refine xf "value" a _ h1 ?_
      exact ⟨by simp, q⟩
    · cases ha
theorem pure__law_try (xn : List Str) : ∀ f tl M Q, TT__law_try xn tl M Q → t__law_try xn f tl { nx := fun _ M' => Q .non M', rt := Q } (startD ["_law_ask", "_law_e"] [.ref f]) M := by
  intro f tl M Q h
  unfold t__law_try
  refine ⟨rfl, h _ _ (fun n fs M' d hn he hq => ⟨hn, ?_⟩) (fun d M' hq => ⟨by simp, hq⟩)⟩
  obtain ⟨code, l, hc, ok, ha, hx, hl, rfl⟩ := he
  have hc' : fs.lookup (Str.ofString "code") = some (.str code) := hc
  simp [hn, hc']
  refine ⟨n, fs, code, l, rfl, hn, hc, ok, ha, ?_⟩
  refine ⟨by simp; omega, rfl, ?_, hq⟩
  simp [noX, noXL, hx]
theorem pure__law_gust : ∀ ds M Q E, sp__law_gust ds M Q E → ds.length = (["_law_bag_here"] : List Str).length ∧ t__law_gust { nx := fun _ M' => Q .non M', rt := Q } (startD ["_law_bag_here", "_law_k"] ds) M := by
  rintro ds M Q E ⟨b, rfl, hb, q⟩
  refine ⟨rfl, ?_⟩
  simp [t__law_gust]
  refine compi_any (P := toll) _ _ _ (fun x hx Q h => ?_) (by simp [rngD]) (fun ds hl hd => ?_)
  · simp [wipeD]
    refine ⟨b, 100, rfl, hb, ⟨by decide, by decide⟩, fun n h0 h1 => ?_⟩
    refine .inl ⟨b, 0, _, rfl, hb, ⟨by simp, by simp⟩, fun x hx => h x ?_⟩
    simp only [List.mem_cons, List.not_mem_nil, or_false] at hx
    rcases hx with rfl | rfl | rfl | rfl | rfl | rfl | rfl | rfl | rfl | rfl | rfl
    · exact .inl rfl
    all_goals exact .inr ⟨_, rfl, by omega, by omega⟩
  · simp
    exact q ds ⟨by rw [hl]; simp [rngD], hd⟩
theorem pure__law_moves : ∀ ds M Q E, sp__law_moves ds M Q E → ds.length = ([] : List Str).length ∧ t__law_moves { nx := fun _ M' => Q .non M', rt := Q } (startD [] ds) M := by
  rintro ds M Q E ⟨rfl, q⟩
  refine ⟨rfl, ?_⟩
  simpa [t__law_moves, movesL, pairD] using q
end HS
/-! The text by places, scopes. Printed by a program of mine. -/
namespace K02
open PySem L2 DL HS
def top (i : Nat) : Stmt := PySem.Challenge.pw_highestsky_k02_winds_and_directions.main.body.getD i (.Pass ⟨0, 0, 0, 0⟩)
def clsBody (s : Stmt) (i : Nat) : Stmt := match s with
  | .ClassDef _ _ _ b _ _ _ _ _ _ _ => b.getD i (.Pass ⟨0, 0, 0, 0⟩)
  | _ => .Pass ⟨0, 0, 0, 0⟩
abbrev s_is_number : Stmt := top 5
abbrev s_is_wind : Stmt := top 10
abbrev s_moved_cell : Stmt := top 11
abbrev s__law_bag : Stmt := top 13
abbrev s__law_draw : Stmt := top 14
abbrev s__law_pick : Stmt := top 15
abbrev s__law_same : Stmt := top 16
abbrev s__law_field : Stmt := top 17
abbrev s__law_try : Stmt := top 18
abbrev s__law_gust : Stmt := top 19
abbrev s__law_moves : Stmt := top 20
abbrev s__law_is_gust : Stmt := top 21
abbrev s__law_words : Stmt := top 22
abbrev s_law : Stmt := top 23
theorem sc_is_number : FnScope ["value", "least", "most"] ["value", "least", "most"] (defScope s_is_number) := ⟨rfl, rfl, rfl, by decide +kernel, rfl, by decide +kernel, by decide +kernel⟩
theorem sc_is_wind : FnScope ["value", "toll"] ["value"] (defScope s_is_wind) := ⟨rfl, rfl, rfl, by decide +kernel, rfl, by decide +kernel, by decide +kernel⟩
theorem sc_moved_cell : FnScope ["cell", "direction", "down", "right"] ["cell", "direction"] (defScope s_moved_cell) := ⟨rfl, rfl, rfl, by decide +kernel, rfl, by decide +kernel, by decide +kernel⟩
theorem sc__law_bag : FnScope ["_law_script", "_law_cells_z", "_law_cell_z", "_law_mark"] ["_law_script"] (defScope s__law_bag) := ⟨rfl, rfl, rfl, by decide +kernel, rfl, by decide +kernel, by decide +kernel⟩
theorem sc__law_draw : FnScope ["_law_bag_here", "_law_many", "_law_cell_z", "_law_mixed", "_law_second", "_law_digit"] ["_law_bag_here", "_law_many"] (defScope s__law_draw) := ⟨rfl, rfl, rfl, by decide +kernel, rfl, by decide +kernel, by decide +kernel⟩
theorem sc__law_pick : FnScope ["_law_bag_here", "_law_some"] ["_law_bag_here", "_law_some"] (defScope s__law_pick) := ⟨rfl, rfl, rfl, by decide +kernel, rfl, by decide +kernel, by decide +kernel⟩
theorem sc__law_same : FnScope ["_law_found", "_law_due", "_law_one", "_law_two"] ["_law_found", "_law_due"] (defScope s__law_same) := ⟨rfl, rfl, rfl, by decide +kernel, rfl, by decide +kernel, by decide +kernel⟩
theorem sc__law_field : FnScope ["_law_e"] ["_law_e"] (defScope s__law_field) := ⟨rfl, rfl, rfl, by decide +kernel, rfl, by decide +kernel, by decide +kernel⟩
theorem sc__law_try : FnScope ["_law_ask", "_law_e"] ["_law_ask"] (defScope s__law_try) := ⟨rfl, rfl, rfl, by decide +kernel, rfl, by decide +kernel, by decide +kernel⟩
theorem sc__law_gust : FnScope ["_law_bag_here", "_law_k"] ["_law_bag_here"] (defScope s__law_gust) := ⟨rfl, rfl, rfl, by decide +kernel, rfl, by decide +kernel, by decide +kernel⟩
theorem sc__law_moves : FnScope [] [] (defScope s__law_moves) := ⟨rfl, rfl, rfl, by decide +kernel, rfl, by decide +kernel, by decide +kernel⟩
theorem sc__law_is_gust : FnScope ["_law_thing", "_law_cost"] ["_law_thing"] (defScope s__law_is_gust) := ⟨rfl, rfl, rfl, by decide +kernel, rfl, by decide +kernel, by decide +kernel⟩
theorem sc__law_words : FnScope [] [] (defScope s__law_words) := ⟨rfl, rfl, rfl, by decide +kernel, rfl, by decide +kernel, by decide +kernel⟩
theorem sc_law : FnScope ["_law_script", "_law_bag_here", "_law_turn", "_law_gust_here", "_law_spot", "_law_odd", "_law_bent", "_law_some", "_law_thing", "_law_room", "_law_made", "_law_move", "_law_word", "_law_backs", "_law_bad"] ["_law_script"] (defScope s_law) := ⟨rfl, rfl, rfl, by decide +kernel, rfl, by decide +kernel, by decide +kernel⟩
theorem bn_is_number : ∀ (kV doc pm : Value) (an : Option Addr) (cdv ct : Value) (us : List Value), us.length = (["value", "least", "most"] : List Str).length → bindArgs (PySem.W.fnOf "is_number" "is_number" (defArgs s_is_number) (defBody s_is_number) (defScope s_is_number) .none kV doc pm an cdv ct) ⟨us, []⟩ = pure ((["value", "least", "most"] : List Str).zip us) := fun _ _ _ _ _ _ us hl => match us, hl with | [_, _, _], _ => rfl
theorem bn_is_wind : ∀ (kV doc pm : Value) (an : Option Addr) (cdv ct : Value) (us : List Value), us.length = (["value"] : List Str).length → bindArgs (PySem.W.fnOf "is_wind" "is_wind" (defArgs s_is_wind) (defBody s_is_wind) (defScope s_is_wind) .none kV doc pm an cdv ct) ⟨us, []⟩ = pure ((["value"] : List Str).zip us) := fun _ _ _ _ _ _ us hl => match us, hl with | [_], _ => rfl
theorem bn_moved_cell : ∀ (kV doc pm : Value) (an : Option Addr) (cdv ct : Value) (us : List Value), us.length = (["cell", "direction"] : List Str).length → bindArgs (PySem.W.fnOf "moved_cell" "moved_cell" (defArgs s_moved_cell) (defBody s_moved_cell) (defScope s_moved_cell) .none kV doc pm an cdv ct) ⟨us, []⟩ = pure ((["cell", "direction"] : List Str).zip us) := fun _ _ _ _ _ _ us hl => match us, hl with | [_, _], _ => rfl
theorem bn__law_bag : ∀ (kV doc pm : Value) (an : Option Addr) (cdv ct : Value) (us : List Value), us.length = (["_law_script"] : List Str).length → bindArgs (PySem.W.fnOf "_law_bag" "_law_bag" (defArgs s__law_bag) (defBody s__law_bag) (defScope s__law_bag) .none kV doc pm an cdv ct) ⟨us, []⟩ = pure ((["_law_script"] : List Str).zip us) := fun _ _ _ _ _ _ us hl => match us, hl with | [_], _ => rfl
theorem bn__law_draw : ∀ (kV doc pm : Value) (an : Option Addr) (cdv ct : Value) (us : List Value), us.length = (["_law_bag_here", "_law_many"] : List Str).length → bindArgs (PySem.W.fnOf "_law_draw" "_law_draw" (defArgs s__law_draw) (defBody s__law_draw) (defScope s__law_draw) .none kV doc pm an cdv ct) ⟨us, []⟩ = pure ((["_law_bag_here", "_law_many"] : List Str).zip us) := fun _ _ _ _ _ _ us hl => match us, hl with | [_, _], _ => rfl
theorem bn__law_pick : ∀ (kV doc pm : Value) (an : Option Addr) (cdv ct : Value) (us : List Value), us.length = (["_law_bag_here", "_law_some"] : List Str).length → bindArgs (PySem.W.fnOf "_law_pick" "_law_pick" (defArgs s__law_pick) (defBody s__law_pick) (defScope s__law_pick) .none kV doc pm an cdv ct) ⟨us, []⟩ = pure ((["_law_bag_here", "_law_some"] : List Str).zip us) := fun _ _ _ _ _ _ us hl => match us, hl with | [_, _], _ => rfl
theorem bn__law_same : ∀ (kV doc pm : Value) (an : Option Addr) (cdv ct : Value) (us : List Value), us.length = (["_law_found", "_law_due"] : List Str).length → bindArgs (PySem.W.fnOf "_law_same" "_law_same" (defArgs s__law_same) (defBody s__law_same) (defScope s__law_same) .none kV doc pm an cdv ct) ⟨us, []⟩ = pure ((["_law_found", "_law_due"] : List Str).zip us) := fun _ _ _ _ _ _ us hl => match us, hl with | [_, _], _ => rfl
theorem bn__law_field : ∀ (kV doc pm : Value) (an : Option Addr) (cdv ct : Value) (us : List Value), us.length = (["_law_e"] : List Str).length → bindArgs (PySem.W.fnOf "_law_field" "_law_field" (defArgs s__law_field) (defBody s__law_field) (defScope s__law_field) .none kV doc pm an cdv ct) ⟨us, []⟩ = pure ((["_law_e"] : List Str).zip us) := fun _ _ _ _ _ _ us hl => match us, hl with | [_], _ => rfl
theorem bn__law_try : ∀ (kV doc pm : Value) (an : Option Addr) (cdv ct : Value) (us : List Value), us.length = (["_law_ask"] : List Str).length → bindArgs (PySem.W.fnOf "_law_try" "_law_try" (defArgs s__law_try) (defBody s__law_try) (defScope s__law_try) .none kV doc pm an cdv ct) ⟨us, []⟩ = pure ((["_law_ask"] : List Str).zip us) := fun _ _ _ _ _ _ us hl => match us, hl with | [_], _ => rfl
theorem bn__law_gust : ∀ (kV doc pm : Value) (an : Option Addr) (cdv ct : Value) (us : List Value), us.length = (["_law_bag_here"] : List Str).length → bindArgs (PySem.W.fnOf "_law_gust" "_law_gust" (defArgs s__law_gust) (defBody s__law_gust) (defScope s__law_gust) .none kV doc pm an cdv ct) ⟨us, []⟩ = pure ((["_law_bag_here"] : List Str).zip us) := fun _ _ _ _ _ _ us hl => match us, hl with | [_], _ => rfl
theorem bn__law_moves : ∀ (kV doc pm : Value) (an : Option Addr) (cdv ct : Value) (us : List Value), us.length = ([] : List Str).length → bindArgs (PySem.W.fnOf "_law_moves" "_law_moves" (defArgs s__law_moves) (defBody s__law_moves) (defScope s__law_moves) .none kV doc pm an cdv ct) ⟨us, []⟩ = pure (([] : List Str).zip us) := fun _ _ _ _ _ _ us hl => match us, hl with | [], _ => rfl
theorem bn__law_is_gust : ∀ (kV doc pm : Value) (an : Option Addr) (cdv ct : Value) (us : List Value), us.length = (["_law_thing"] : List Str).length → bindArgs (PySem.W.fnOf "_law_is_gust" "_law_is_gust" (defArgs s__law_is_gust) (defBody s__law_is_gust) (defScope s__law_is_gust) .none kV doc pm an cdv ct) ⟨us, []⟩ = pure ((["_law_thing"] : List Str).zip us) := fun _ _ _ _ _ _ us hl => match us, hl with | [_], _ => rfl
theorem bn__law_words : ∀ (kV doc pm : Value) (an : Option Addr) (cdv ct : Value) (us : List Value), us.length = ([] : List Str).length → bindArgs (PySem.W.fnOf "_law_words" "_law_words" (defArgs s__law_words) (defBody s__law_words) (defScope s__law_words) .none kV doc pm an cdv ct) ⟨us, []⟩ = pure (([] : List Str).zip us) := fun _ _ _ _ _ _ us hl => match us, hl with | [], _ => rfl
theorem bn_law : ∀ (kV doc pm : Value) (an : Option Addr) (cdv ct : Value) (us : List Value), us.length = (["_law_script"] : List Str).length → bindArgs (PySem.W.fnOf "law" "law" (defArgs s_law) (defBody s_law) (defScope s_law) .none kV doc pm an cdv ct) ⟨us, []⟩ = pure ((["_law_script"] : List Str).zip us) := fun _ _ _ _ _ _ us hl => match us, hl with | [_], _ => rfl
abbrev si_InvalidMirror : Stmt := clsBody (top 3) 0
theorem sci_InvalidMirror : FnScope ["self", "value"] ["self", "value"] (defScope si_InvalidMirror) := ⟨rfl, rfl, rfl, by decide +kernel, rfl, by decide +kernel, by decide +kernel⟩
theorem bni_InvalidMirror : ∀ (kV doc pm : Value) (an : Option Addr) (cdv ct : Value) (us : List Value), us.length = (["self", "value"] : List Str).length → bindArgs (PySem.W.fnOf "__init__" "InvalidMirror.__init__" (defArgs si_InvalidMirror) (defBody si_InvalidMirror) (defScope si_InvalidMirror) .none kV doc pm an cdv ct) ⟨us, []⟩ = pure ((["self", "value"] : List Str).zip us) := fun _ _ _ _ _ _ us hl => match us, hl with | [_, _], _ => rfl
theorem ini_InvalidMirror {P : Program} {w : World} {K : PySem.W.Frag} {mg : Str → Option Value} {base : Heap} {C fI : Addr} {fd : FuncData} (T : OexC K C) (no : noB K C ["code", "value"] = true) (F : FunD K "__init__" "InvalidMirror.__init__" (defArgs si_InvalidMirror) (defBody si_InvalidMirror) (defScope si_InvalidMirror) [] [] fI fd) : FnOk P w K mg base CX0 1 fI fd ["self", "value"] (spIni C 1 (mkF V.str .non fl_InvalidMirror)) := by
  refine F.ok sci_InvalidMirror (fun vs H Q E h => ?_) (fun cdv A outer s H vs Q E hr h => ?_)
  · obtain ⟨a, args, rfl, hl, _⟩ := h
    simp [hl]
  · obtain ⟨a, args, rfl, hl, ha, q⟩ := h
    match args, hl with
    | [x0], _ =>
      refine ⟨_, (pss_cons (ps_ost (pe_var (i := 0) rfl (Or.inl rfl)) pe_str) (pss_one (ps_ost (pe_var (i := 0) rfl (Or.inl rfl)) (pe_var (i := 1) rfl (Or.inl rfl))))), ?_⟩
      refine ost_first (f := "code") (y := .str "InvalidMirror") T (noB_ok no (by decide)) rfl ha (fun Q h => h) fun d hd hda => ?_
      dsimp only
      refine ost_next (f := "value") (y := x0) (fs := [("code", .str "InvalidMirror")]) T (noB_ok no (by decide)) rfl hda (by simp) (fun Q h => ⟨_, rfl, h⟩) ?_
      exact q d hd hda
def xnames : List Str := ["InvalidMirror"]
def xfields : List Str := ["at", "code", "column", "line", "most", "row", "value", "why"]
structure Gb (P : Program) (w : World) (K : PySem.W.Frag) (mg : Str → Option Value) (base : Heap) (cl : Str → Addr) : Prop where
  b_all : mg "all" = none
  b_bool : mg "bool" = none
  b_int : mg "int" = none
  b_isinstance : mg "isinstance" = none
  b_len : mg "len" = none
  b_list : mg "list" = none
  b_range : mg "range" = none
  b_str : mg "str" = none
  b_tuple : mg "tuple" = none
  b_zip : mg "zip" = none
  c_DIRECTIONS : GC K mg "DIRECTIONS" (.tup [(.str "stay"), (.str "north"), (.str "east"), (.str "south"), (.str "west")])
  c_MOST_TOLL : GC K mg "MOST_TOLL" (.int 99)
  k_OFFSETS : KTab K w mg "OFFSETS" kv_OFFSETS
  x_InvalidMirror : ExcD P w K mg base cl "InvalidMirror" 1 fl_InvalidMirror
  g_SkyError : mg "SkyError" = some (.ref (cl "SkyError"))
  g_Missing : mg "Missing" = some (.ref (cl "Missing"))
  cat0 : ∀ n ∈ xnames, PySem.W.exmAny K (.ref (cl n)) [.ref (cl "SkyError"), .ref (cl "Missing")] = some true
  xf0 : ∀ n ∈ xnames, XfC K (cl n) ∧ noB K (cl n) xfields = true
theorem Gb.cat {P : Program} {w : World} {K : PySem.W.Frag} {mg : Str → Option Value} {base : Heap} {cl : Str → Addr} (G : Gb P w K mg base cl) {c : Wd} (h : c.cl = cl) : ∀ n ∈ xnames, PySem.W.exmAny K (.ref (c.cl n)) [.ref (cl "SkyError"), .ref (cl "Missing")] = some true := by
  rw [h]; exact G.cat0
theorem Gb.xf {P : Program} {w : World} {K : PySem.W.Frag} {mg : Str → Option Value} {base : Heap} {cl : Str → Addr} (G : Gb P w K mg base cl) {c : Wd} (h : c.cl = cl) {f : Str} (hf : f ∈ xfields) : ∀ n ∈ xnames, XfC K (c.cl n) ∧ PySem.W.findIn K (.ref (c.cl n)) f = some none := by
  rw [h]; exact fun n hn => ⟨(G.xf0 n hn).1, noB_ok (G.xf0 n hn).2 hf⟩
namespace Kw_is_wind_value
def g {α : Type} : List α → List α
  | [x0] => [x0]
  | l => l
theorem rel {α β : Type} (R : α → β → Prop) (a : List α) (b : List β) (h : a.length = 1) (p : Paired R a b) : Paired R (g a) (g b) := by
  match a, h with
  | [x0], _ =>
    cases p with
    | cons p0 q0 =>
      cases q0
      exact (.cons p0 .nil)
theorem relL (K : PySem.W.Frag) (w : Wd) (ds : List D) (vs : List V) (h : ds.length = 1) (r : RpL K w ds vs) : RpL K w (g ds) (g vs) := by
  match ds, h with
  | [x0], _ =>
    obtain ⟨v0, r0, rfl, h0, e⟩ := r
    obtain rfl : r0 = [] := e
    exact ⟨_, _, rfl, h0, rfl⟩
end Kw_is_wind_value
theorem bk_Kw_is_wind_value : ∀ (kV doc pm : Value) (an : Option Addr) (cdv ct : Value) (ws : List Value), ws.length = 1 → bindArgs (PySem.W.fnOf "is_wind" "is_wind" (defArgs s_is_wind) (defBody s_is_wind) (defScope s_is_wind) .none kV doc pm an cdv ct) ⟨[], (["value"] : List Str).zip ws⟩ = pure ((["value"] : List Str).zip (Kw_is_wind_value.g ws)) := fun _ _ _ _ _ _ ws hl => match ws, hl with | [_], _ => rfl
namespace Kw_moved_cell_direction_cell
def g {α : Type} : List α → List α
  | [x0, x1] => [x1, x0]
  | l => l
theorem rel {α β : Type} (R : α → β → Prop) (a : List α) (b : List β) (h : a.length = 2) (p : Paired R a b) : Paired R (g a) (g b) := by
  match a, h with
  | [x0, x1], _ =>
    cases p with
    | cons p0 q0 =>
      cases q0 with
      | cons p1 q1 =>
        cases q1
        exact (.cons p1 (.cons p0 .nil))
theorem relL (K : PySem.W.Frag) (w : Wd) (ds : List D) (vs : List V) (h : ds.length = 2) (r : RpL K w ds vs) : RpL K w (g ds) (g vs) := by
  match ds, h with
  | [x0, x1], _ =>
    obtain ⟨v0, r0, rfl, h0, v1, r1, rfl, h1, e⟩ := r
    obtain rfl : r1 = [] := e
    exact ⟨_, _, rfl, h1, ⟨_, _, rfl, h0, rfl⟩⟩
end Kw_moved_cell_direction_cell
theorem bk_Kw_moved_cell_direction_cell : ∀ (kV doc pm : Value) (an : Option Addr) (cdv ct : Value) (ws : List Value), ws.length = 2 → bindArgs (PySem.W.fnOf "moved_cell" "moved_cell" (defArgs s_moved_cell) (defBody s_moved_cell) (defScope s_moved_cell) .none kV doc pm an cdv ct) ⟨[], (["direction", "cell"] : List Str).zip ws⟩ = pure ((["cell", "direction"] : List Str).zip (Kw_moved_cell_direction_cell.g ws)) := fun _ _ _ _ _ _ ws hl => match ws, hl with | [_, _], _ => rfl
end K02
/-! What each def of this law promises, over data. -/
namespace K02
open PySem L2 DL HS
def sp__law_is_gust : DSp := sp_is_wind
def wordsL : List Str := ["stay", "north", "east", "south", "west"]
def sp__law_words : DSp := fun ds M Q _ => ds = [] ∧ Q (.lst 0 (wordsL.map D.str)) M
def sp_law : DSp := spLaw
end K02
/-! The readings of the defs. Printed by a program of mine. -/
namespace K02
open PySem L2 DL HS
def t__law_is_gust_1 : DS := (dIfS (dAnd (dB (dOp notND (dVar 1) (dC .non))) (dOr (dB (dCB isiD (dCons (dVar 1) (dCons (dC (.ty "bool")) dNil)))) (dOr (dNot (dB (dCB isiD (dCons (dVar 1) (dCons (dC (.ty "int")) dNil))))) (dOr (dB (dOp ltD (dVar 1) (dC (.int 0)))) (dB (dOp gtD (dVar 1) (dC (.int 99)))))))) (dRet (dC (.bl false))) dNext)
def t__law_is_gust_2 : DS := (dSeq (dFor (dIt (dVar 0)) (gNm 1) t__law_is_gust_1) (dRet (dC (.bl true))))
def t__law_is_gust : DS := (dSeq (dIfS (dOr (dNot (dB (dCB isiD (dCons (dVar 0) (dCons (dC (.ty "tuple")) dNil))))) (dB (dOp neD (dCB lenD (dCons (dVar 0) dNil)) (dC (.int 5))))) (dRet (dC (.bl false))) dNext) t__law_is_gust_2)
def t__law_words : DS := (dRet (dLst (dCons (dC (.str "stay")) (dCons (dC (.str "north")) (dCons (dC (.str "east")) (dCons (dC (.str "south")) (dCons (dC (.str "west")) dNil)))))))
def t_law_1 (xn : List Str) : DS := (dIfS (dNot (dB (dCall sp__law_same DX0 (dCons (dLam (TT__law_try xn) (fun E2 => (dCall sp_moved_cell E2 (dCons (dVar 9) (dCons (dVar 14) dNil))))) (dCons (dTup (dCons (dC (.str "no")) (dCons (dC (.str "InvalidMirror")) (dCons (dVar 14) dNil)))) dNil))))) (dRet (dC (.bl false))) dNext)
def t_law_2 (xn : List Str) : DS := (dSeq (dAsg (dCall sp__law_pick DX0 (dCons (dVar 1) (dCons (dLst (dCons (dC (.str "")) (dCons (dC (.str "North")) (dCons (dC (.str "nort")) (dCons (dC (.str "norths")) (dCons (dC (.str "up")) (dCons (dC .non) (dCons (dC (.int 0)) (dCons (dC (.int 1)) (dCons (dC (.bl true)) (dCons (dTup (dCons (dC (.str "north")) dNil)) (dCons (dLst (dCons (dC (.str "east")) dNil)) (dCons (dC (.str "stay ")) (dCons (dTup (dCons (dC (.int 0)) (dCons (dC (.int 1)) dNil))) dNil)))))))))))))) dNil))) (gNm 14)) (t_law_1 xn))
def t_law_3 (xn : List Str) : DS := (dSeq (dIfS (dNot (dB (dCall sp__law_same DX0 (dCons (dVar 13) (dCons (dLst (dCons (dVar 9) (dCons (dVar 9) dNil))) dNil))))) (dRet (dC (.bl false))) dNext) (t_law_2 xn))
def t_law_4 (xn : List Str) : DS := (dSeq (dAsg (dLst (dCons (dCall sp_moved_cell DX0 (dCons (dCall sp_moved_cell DX0 (dCons (dVar 9) (dCons (dC (.str "north")) dNil))) (dCons (dC (.str "south")) dNil))) (dCons (dCall sp_moved_cell DX0 (dCons (dCall sp_moved_cell DX0 (dCons (dVar 9) (dCons (dC (.str "west")) dNil))) (dCons (dC (.str "east")) dNil))) dNil))) (gNm 13)) (t_law_3 xn))
def t_law_5 (xn : List Str) : DS := (dSeq (dIfS (dNot (dB (dCall sp__law_same DX0 (dCons (dLc (dIt (dC (.tup [(.str "stay"), (.str "north"), (.str "east"), (.str "south"), (.str "west")]))) (gNm 12) dYes (dCallK0 sp_moved_cell DX0 2 Kw_moved_cell_direction_cell.g (dCons (dVar 12) (dCons (dVar 9) dNil))) [12]) (dCons (dVar 10) dNil))))) (dRet (dC (.bl false))) dNext) (t_law_4 xn))
def t_law_6 (xn : List Str) : DS := (dSeq (dIfS (dNot (dB (dCall sp__law_same DX0 (dCons (dLc (dIt (dCall sp__law_words DX0 dNil)) (gNm 12) dYes (dCall sp_moved_cell DX0 (dCons (dVar 9) (dCons (dVar 12) dNil))) [12]) (dCons (dVar 10) dNil))))) (dRet (dC (.bl false))) dNext) (t_law_5 xn))
def t_law_7 (xn : List Str) : DS := (dSeq (dAsg (dLc (dIt (dCall sp__law_moves DX0 dNil)) (gNm 11) dYes (dTup (dCons (dOp addD (dOp ixD (dVar 9) (dC (.int 0))) (dOp ixD (dVar 11) (dC (.int 0)))) (dCons (dOp addD (dOp ixD (dVar 9) (dC (.int 1))) (dOp ixD (dVar 11) (dC (.int 1)))) dNil))) [11]) (gNm 10)) (t_law_6 xn))
def t_law_8 (xn : List Str) : DS := (dSeq (dAsg (dTup (dCons (dCall sp__law_draw DX0 (dCons (dVar 1) (dCons (dC (.int 6)) dNil))) (dCons (dCall sp__law_draw DX0 (dCons (dVar 1) (dCons (dC (.int 6)) dNil))) dNil))) (gNm 9)) (t_law_7 xn))
def t_law_9 (xn : List Str) : DS := (dSeq (dIfS (dNot (dB (dCall sp__law_same DX0 (dCons (dLc (dIt (dVar 7)) (gNm 8) dYes (dCall sp_is_wind DX0 (dCons (dVar 8) dNil)) [8]) (dCons (dLc (dIt (dVar 7)) (gNm 8) dYes (dCall sp__law_is_gust DX0 (dCons (dVar 8) dNil)) [8]) dNil))))) (dRet (dC (.bl false))) dNext) (t_law_8 xn))
def t_law_10 (xn : List Str) : DS := (dSeq (dAsg (dLst (dCons (dVar 3) (dCons (dVar 6) (dCons (dOp addD (dSl (dVar 3) dNoPart (dPart (dVar 4))) (dSl (dVar 3) (dPart (dOp addD (dVar 4) (dC (.int 1)))) dNoPart)) (dCons (dOp addD (dOp addD (dSl (dVar 3) dNoPart (dPart (dVar 4))) (dTup (dCons (dC (.int 0)) dNil))) (dSl (dVar 3) (dPart (dVar 4)) dNoPart)) (dCons (dCB lstD (dCons (dVar 3) dNil)) (dCons (dTup (dCons (dVar 3) dNil)) (dCons (dVar 5) (dCons (dOp ixD (dVar 3) (dC (.int 0))) dNil))))))))) (gNm 7)) (t_law_9 xn))
def t_law_11 (xn : List Str) : DS := (dSeq (dAsg (dOp addD (dOp addD (dSl (dVar 3) dNoPart (dPart (dVar 4))) (dTup (dCons (dVar 5) dNil))) (dSl (dVar 3) (dPart (dOp addD (dVar 4) (dC (.int 1)))) dNoPart)) (gNm 6)) (t_law_10 xn))
def t_law_12 (xn : List Str) : DS := (dSeq (dPar 4 5 (dCons (dCall sp__law_draw DX0 (dCons (dVar 1) (dCons (dC (.int 5)) dNil))) (dCons (dCall sp__law_pick DX0 (dCons (dVar 1) (dCons (dLst (dCons (dNeg (dC (.int 1))) (dCons (dC (.int 100)) (dCons (dC (.bl true)) (dCons (dC (.bl false)) (dCons (dC (.str "1")) (dCons (dTup (dCons (dC (.int 0)) dNil)) (dCons (dLst dNil) (dCons (dC (.int 99)) (dCons (dC (.int 0)) (dCons (dC .non) (dCons (dC (.int 999999999)) dNil)))))))))))) dNil))) dNil))) (t_law_11 xn))
def t_law_13 (xn : List Str) : DS := (dSeq (dAsg (dCall sp__law_gust DX0 (dCons (dVar 1) dNil)) (gNm 3)) (t_law_12 xn))
def t_law_14 (xn : List Str) : DS := (dSeq (dFor (dRng1 (dCons (dC (.int 6)) dNil)) (gNm 2) (t_law_13 xn)) (dRet (dC (.bl true))))
def t_law_15 (xn : List Str) : DS := (dSeq (dIfS (dNot (dB (dCall sp__law_same DX0 (dCons (dLst (dCons (dC (.tup [(.str "stay"), (.str "north"), (.str "east"), (.str "south"), (.str "west")])) (dCons (dCallK0 sp_is_wind DX0 1 Kw_is_wind_value.g (dCons (dTup (dCons (dC (.int 0)) (dCons (dC (.int 99)) (dCons (dC .non) (dCons (dC (.int 0)) (dCons (dC (.int 5)) dNil)))))) dNil)) dNil))) (dCons (dLst (dCons (dCB tupD (dCons (dCall sp__law_words DX0 dNil) dNil)) (dCons (dC (.bl true)) dNil))) dNil))))) (dRet (dC (.bl false))) dNext) (t_law_14 xn))
def t_law (xn : List Str) : DS := (dSeq (dAsg (dCall sp__law_bag DX0 (dCons (dVar 0) dNil)) (gNm 1)) (t_law_15 xn))
end K02
/-! The defs of this law keep their promises, over data. -/
namespace K02
open PySem L2 DL HS
theorem pure__law_words : ∀ ds M Q E, sp__law_words ds M Q E → ds.length = ([] : List Str).length ∧ t__law_words { nx := fun _ M' => Q .non M', rt := Q } (startD [] ds) M := by
  rintro ds M Q E ⟨rfl, q⟩
  refine ⟨rfl, ?_⟩
  simpa [t__law_words, wordsL] using q
theorem pure__law_is_gust : ∀ ds M Q E, sp__law_is_gust ds M Q E → ds.length = (["_law_thing"] : List Str).length ∧ t__law_is_gust { nx := fun _ M' => Q .non M', rt := Q } (startD ["_law_thing", "_law_cost"] ds) M := by
  rintro ds M Q E ⟨v, rfl, ⟨hty, ht⟩, q⟩
  refine ⟨rfl, ?_⟩
  cases v <;> first | (cases (show false = true from hty); done) | skip
  all_goals simp [t__law_is_gust, inst, tyN, isA, tyNames]
  all_goals first | exact q | skip
  case tup xs =>
    obtain ⟨h1, h2⟩ := ht xs rfl
    by_cases hl : xs.length = 5
    · simp [hl, t__law_is_gust_2]
      have hw : isWind (.tup xs) = xs.all isToll := by simp [isWind, hl]
      rw [hw] at q
      have key : ∀ (l : List D) (o : Option D) (E : DEnds), (∀ x ∈ l, ty x) → (l.all isToll = true → ∀ o', E.nx [some (.tup xs), o'] M) → (l.all isToll = false → E.rt (.bl false) M) → fori (gNm 1) t__law_is_gust_1 l E [some (.tup xs), o] M := by
        intro l
        induction l with
        | nil => intro o E _ h _; exact h rfl o
        | cons x r ih =>
          intro o E hx ha hb
          refine x_cons ?_
          have hx1 := hx x List.mem_cons_self
          have go : isToll x = true → fori (gNm 1) t__law_is_gust_1 r E [some (.tup xs), some x] M := fun e => ih (some x) E (fun y hy => hx y (List.mem_cons_of_mem _ hy)) (fun h o' => ha (by simp [e, h]) o') (fun h => hb (by simp [e, h]))
          have no : isToll x = false → E.rt (.bl false) M := fun e => hb (by simp [e])
          cases x <;> first | (cases (show false = true from hx1); done) | skip
          all_goals simp [t__law_is_gust_1, inst, tyN, isA, tyNames, DL.isNon]
          all_goals first | exact go rfl | exact no rfl | skip
          case int i =>
            simp [isToll, isNum, DL.isNon] at go no
            repeat' split
            all_goals first | (apply go <;> omega) | (apply no; omega)
      refine key xs none _ h2 (fun h o' => ?_) (fun h => ?_)
      · simpa [h] using q
      · simpa [h] using q
    · rw [if_neg (by omega)]
      simpa [isWind, hl] using q
theorem mem_cut {α : Type} {xs : List α} {lo hi : Option Int} {x : α} (h : x ∈ cut xs lo hi) : x ∈ xs := List.mem_of_mem_drop (List.mem_of_mem_take h)
theorem toll_ty {d : D} (h : toll d) : ty d := by rcases h with rfl | ⟨i, rfl, _⟩ <;> rfl
theorem ty1_tup {xs : List D} (h : xs.length ≤ 50000) (h2 : ∀ x ∈ xs, ty x) : ty1 (.tup xs) := ⟨rfl, fun ys e => by cases e; exact ⟨h, h2⟩⟩
def okOdd (d : D) : Bool := gd 3 d && (match d with | .tup xs => xs.all fun x => (tyN x).isSome | _ => true)
theorem offs_stay : offs "stay" = some (0, 0) := by decide +kernel
theorem offs_north : offs "north" = some (-1, 0) := by decide +kernel
theorem offs_east : offs "east" = some (0, 1) := by decide +kernel
theorem offs_south : offs "south" = some (1, 0) := by decide +kernel
theorem offs_west : offs "west" = some (0, -1) := by decide +kernel
theorem moved_sp {r c : Int} {z : Str} {M : Mu} {Q : DK} {E : DXK} : sp_moved_cell [.tup [.int r, .int c], .str z] M Q E ↔ (match offs z with | some p => Q (.tup [.int (r + p.1), .int (c + p.2)]) M | none => E "InvalidMirror" [("value", .str z), ("code", .str "InvalidMirror")] M) := by
  constructor
  · rintro ⟨r', c', d, e, _, h1, h2⟩
    injection e with e1 e2; injection e2 with e2 _
    injection e1 with e1; injection e1 with e1 e3; injection e3 with e3 _
    cases e1; cases e3; cases e2
    cases ho : offs z with
    | none => exact h2 (by simp [moved, ho])
    | some p => exact h1 _ (by simp [moved, ho])
  · intro h
    refine ⟨r, c, .str z, rfl, rfl, fun x hx => ?_, fun hx => ?_⟩
    · cases ho : offs z with
      | none => simp [moved, ho] at hx
      | some p => simp [moved, ho] at hx; subst hx; simpa [ho] using h
    · cases ho : offs z with
      | none => simpa [ho] using h
      | some p => simp [moved, ho] at hx
theorem err_mirror {d : D} (h : noX d = true) : errT "InvalidMirror" [("value", d), ("code", .str "InvalidMirror")] (.tup [.str "no", .str "InvalidMirror", d]) := ⟨"InvalidMirror", [d], rfl, by decide +kernel, rfl, by simp [noXL, h], by simp, rfl⟩
def okBad (d : D) : Bool := gd 4 d && noX d && (match d with | .str z => (offs z).isNone | _ => true)
theorem bad_none {r c : Int} {d : D} (h : okBad d = true) : moved r c d = none := by
  unfold okBad at h
  rw [Bool.and_eq_true] at h
  cases d with
  | str z => have := h.2; simp at this; simp [moved, this]
  | _ => rfl
theorem pure_law : ∀ ds M Q E, sp_law ds M Q E → ds.length = (["_law_script"] : List Str).length ∧ t_law xnames { nx := fun _ M' => Q .non M', rt := Q } (startD ["_law_script", "_law_bag_here", "_law_turn", "_law_gust_here", "_law_spot", "_law_odd", "_law_bent", "_law_some", "_law_thing", "_law_room", "_law_made", "_law_move", "_law_word", "_law_backs", "_law_bad"] ds) M := by
  rintro ds M Q E ⟨ns, rfl, hl, hM, q⟩
  refine ⟨rfl, ?_⟩
  simp [t_law]
  refine bag_i hl fun b hb => ?_
  generalize hM1 : setM M b .bag = M1
  have e1 : M1 b = some .bag := by rw [← hM1]; exact setM_same
  simp [t_law_15, sp__law_words, sp_is_wind, Kw_is_wind_value.g]
  refine ⟨by simp [ty1, ty, tyN, tys], ?_⟩
  refine same_t (by decide +kernel) (by decide +kernel) rfl ?_
  simp [t_law_14]
  refine fori_inv (P := fun ρ M' => M' = M1 ∧ ∃ o2 o3 o4 o5 o6 o7 o8 o9 o10 o11 o12 o13 o14, ρ = [some (.scr ns), some (.ref b), o2, o3, o4, o5, o6, o7, o8, o9, o10, o11, o12, o13, o14]) ?_ ⟨rfl, _, _, _, _, _, _, _, _, _, _, _, _, _, rfl⟩ (fun _ _ _ => q _)
  rintro x - ρ M' ⟨rfl, o2, o3, o4, o5, o6, o7, o8, o9, o10, o11, o12, o13, o14, rfl⟩ nx hn
  simp [t_law_13, sp__law_gust, e1]
  intro ts hts
  simp [t_law_12]
  refine draw_i e1 (by decide) (by decide) fun k hk0 hk1 => ?_
  refine pick_l e1 (by simp) (by simp) fun odd hodd => ?_
  simp [t_law_11, hts.1]
  have ho : okOdd odd = true := List.all_eq_true.mp (show _ = true by decide +kernel) odd hodd
  clear hodd
  have c1 : (cut ts none (some k)).length ≤ 5 := hts.1 ▸ cut_len ts none (some k)
  have c2 : (cut ts (some (k + 1)) none).length ≤ 5 := hts.1 ▸ cut_len ts (some (k + 1)) none
  have c3 : (cut ts (some k) none).length ≤ 5 := hts.1 ▸ cut_len ts (some k) none
  have tt : ∀ x ∈ ts, ty x := fun x hx => toll_ty (hts.2 x hx)
  have oty : ty odd := gd_ty (by simp [okOdd] at ho; exact ho.1)
  have ot1 : ty1 odd := ⟨oty, fun xs e => by subst e; simp [okOdd] at ho; exact ⟨(gd_tup ho.1).1, fun x hx => ho.2 x hx⟩⟩
  refine ⟨by omega, by omega, ?_⟩
  obtain ⟨t0, hat, ht0⟩ := atI_some (xs := ts) (i := 0) (by decide) (by rw [hts.1]; decide)
  simp [t_law_10, hat]
  refine ⟨by omega, by omega, by omega, ?_⟩
  generalize hth : [D.tup ts, D.tup (cut ts none (some k) ++ odd :: cut ts (some (k + 1)) none), D.tup (cut ts none (some k) ++ cut ts (some (k + 1)) none), D.tup (cut ts none (some k) ++ D.int 0 :: cut ts (some k) none), D.lst 0 ts, D.tup [D.tup ts], odd, t0] = th
  have hth1 : ∀ x ∈ th, ty1 x := by
    subst hth
    intro x hx
    simp at hx
    rcases hx with rfl | rfl | rfl | rfl | rfl | rfl | rfl | rfl
    · exact ty1_tup (by rw [hts.1]; decide) tt
    · refine ty1_tup (by simp; omega) fun x hx => ?_
      simp at hx
      rcases hx with hx | rfl | hx
      · exact tt x (mem_cut hx)
      · exact oty
      · exact tt x (mem_cut hx)
    · refine ty1_tup (by simp; omega) fun x hx => ?_
      simp at hx
      rcases hx with hx | hx
      · exact tt x (mem_cut hx)
      · exact tt x (mem_cut hx)
    · refine ty1_tup (by simp; omega) fun x hx => ?_
      simp at hx
      rcases hx with hx | rfl | hx
      · exact tt x (mem_cut hx)
      · rfl
      · exact tt x (mem_cut hx)
    · exact ⟨rfl, fun xs e => by cases e⟩
    · exact ty1_tup (by simp) fun x hx => by simp at hx; subst hx; rfl
    · exact ot1
    · refine ⟨tt _ ht0, fun xs e => ?_⟩
      subst e
      rcases hts.2 _ ht0 with z | ⟨i, z, _⟩ <;> cases z
  have hthl : th.length = 8 := by subst hth; rfl
  simp [t_law_9]
  refine compi_map (f := fun x => .bl (isWind x)) th [] _ (fun x hx Q h => ?_) (by simp; omega) ?_
  · simp [wipeD]; exact ⟨x, rfl, hth1 x hx, h⟩
  refine compi_map (f := fun x => .bl (isWind x)) th [] _ (fun x hx Q h => ?_) (by simp; omega) ?_
  · simp [wipeD]; exact ⟨x, rfl, hth1 x hx, h⟩
  have hg : gd 6 (D.lst 0 (th.map fun x => .bl (isWind x))) = true := by simp [gd, hthl]
  refine same_t (by simpa using hg) (by simpa using hg) rfl ?_
  simp [t_law_8]
  refine draw_i e1 (by decide) (by decide) fun r hr0 hr1 => ?_
  refine draw_i e1 (by decide) (by decide) fun c hc0 hc1 => ?_
  simp [t_law_7, sp__law_moves]
  simp [compi, wipeD, movesL, pairD, atI, ixN]
  simp [t_law_6, sp__law_words, wordsL, compi, wipeD, moved_sp, offs_stay, offs_north, offs_east, offs_south, offs_west]
  refine same_t (by simp [gd]) (by simp [gd]) rfl ?_
  simp [t_law_5, compi, wipeD, Kw_moved_cell_direction_cell.g, moved_sp, offs_stay, offs_north, offs_east, offs_south, offs_west]
  refine same_t (by simp [gd]) (by simp [gd]) rfl ?_
  simp [t_law_4, moved_sp, offs_stay, offs_north, offs_east, offs_south, offs_west]
  simp [t_law_3]
  refine same_t (by simp [gd]) (by simp [gd]) (by simp [py, pyL]; omega) ?_
  simp [t_law_2]
  refine pick_l e1 (by simp) (by simp) fun bad hbad => ?_
  simp [t_law_1]
  have hb2 : okBad bad = true := List.all_eq_true.mp (show _ = true by decide +kernel) bad hbad
  clear hbad
  intro E0 Q0 hE hQ
  have hb3 : gd 4 bad = true ∧ noX bad = true := by have := hb2; unfold okBad at this; simp at this; exact this.1
  refine ⟨r, c, bad, rfl, gd_ty hb3.1, fun x hx => ?_, fun _ => ?_⟩
  · rw [bad_none hb2] at hx; cases hx
  · refine hE _ _ _ _ (by decide) (err_mirror hb3.2) ?_
    refine same_t (n := 6) ?_ ?_ rfl ?_
    · have := gd_le hb3.1 (show 4 ≤ 5 by decide); simp [gd, this]; decide +kernel
    · have := gd_le hb3.1 (show 4 ≤ 5 by decide); simp [gd, this]; decide +kernel
    · exact hn _ _ ⟨rfl, _, _, _, _, _, _, _, _, _, _, _, _, _, rfl⟩
end K02
/-! Each def keeps its promise: the walks. Printed by a program of mine. -/
namespace K02
open PySem L2 DL LamX HS
section
variable {P : Program} {w : World} {K : PySem.W.Frag} {mg : Str → Option Value} {base : Heap} {cl : Str → Addr} {tb : List (Addr × Str)}
theorem dv_is_number (G : Gb P w K mg base cl) {f : Addr} (cdv : Value) (A : Around) (outer : List Env) (sh : Shared) (H : Hp) (E0 : XK) (c : Wd) (hcc : Cc cl tb c) (hr : Room 0 (A.deeper (PyProof.Rows.envOfC "is_number" (defScope s_is_number) sh.heap.objs.size f cdv))) :
    PDSs c (cxOf (L2N.CX P w) P w K mg base ["value", "least", "most"] "is_number" (defScope s_is_number) f cdv A outer sh H E0) (defBody s_is_number) (t_is_number) :=
    (pdss_one (pds_ret (pd_and (pd_callB isi_D rfl G.b_isinstance (by decide +kernel) (pda_cons (pd_var 0) (pda_cons (pd_ty G.b_int (by decide +kernel)) pda_nil))) (pd_and (pd_not (pd_callB isi_D rfl G.b_isinstance (by decide +kernel) (pda_cons (pd_var 0) (pda_cons (pd_ty G.b_bool (by decide +kernel)) pda_nil)))) (pd_one (pd_chain opD_le opD_le (pd_var 1) (pd_var 0) (pd_var 2)))))))
theorem ok_is_number (G : Gb P w K mg base cl) {f : Addr} {fd : FuncData} (F : FunD K "is_number" "is_number" (defArgs s_is_number) (defBody s_is_number) (defScope s_is_number) [] [] f fd) : FnOk P w K mg base (L2N.CX P w) 1 f fd ["value", "least", "most"] (upX K cl tb sp_is_number) :=
  fnX F sc_is_number (t := fun _ => t_is_number) (fun cdv A outer sh H E0 c E  hcc hr tk => dv_is_number G cdv A outer sh H E0 c hcc hr) pure_is_number
theorem dv_is_wind (G : Gb P w K mg base cl) (F_is_number : Fnd P w K mg base cl tb 1 "is_number" s_is_number ["value", "least", "most"] sp_is_number) {f : Addr} (cdv : Value) (A : Around) (outer : List Env) (sh : Shared) (H : Hp) (E0 : XK) (c : Wd) (hcc : Cc cl tb c) (hr : Room 1 (A.deeper (PyProof.Rows.envOfC "is_wind" (defScope s_is_wind) sh.heap.objs.size f cdv))) :
    PDSs c (cxOf (L2N.CX P w) P w K mg base ["value", "toll"] "is_wind" (defScope s_is_wind) f cdv A outer sh H E0) (defBody s_is_wind) (t_is_wind) :=
    (pdss_cons (pds_if (PW.pt (pdw_or (pdt_not (pdt_val (pd_callB isi_D rfl G.b_isinstance (by decide +kernel) (pda_cons (pd_var 0) (pda_cons (pd_ty G.b_tuple (by decide +kernel)) pda_nil))))) (pdw_one (pdt_cmp (ne_flat hr.units) (pd_callB len_D rfl G.b_len PySem.boot_len (pda_cons (pd_var 0) pda_nil)) (pd_callB len_D rfl G.b_len PySem.boot_len (pda_cons (pd_globC G.c_DIRECTIONS) pda_nil)))))) (pdss_one (pds_ret pd_bl)) pdss_nil)
      (pdss_one (pds_ret (pd_callB (all_D rfl) rfl G.b_all (by decide +kernel) (pda_cons (pd_lc (own := [("toll", 1)]) (us := [1]) rfl sc_is_wind.nd (pdi_any (pd_var 0)) (blkOk_by (N := ["value", "toll"]) (sc := defScope s_is_wind) (own := [("toll", 1)]) (by decide +kernel)) (fun c1 sc1 _ _ _ _ _ => (pdg_name (i := 1) sc_is_wind.nd)) (fun c1 sc1 _ _ _ _ _ => pdts_nil) (fun c1 sc1 _ _ _ _ _ => (pd_or (pd_cmp opD_is (pd_var 1) pd_non) (pd_one (pd_call (hcc.sc sc1) F_is_number (hr.mono (by decide)) tk0 (pda_cons (pd_var 1) (pda_cons pd_int (pda_cons (pd_globC G.c_MOST_TOLL) pda_nil)))))))) pda_nil)))))
theorem ok_is_wind (G : Gb P w K mg base cl) (F_is_number : Fnd P w K mg base cl tb 1 "is_number" s_is_number ["value", "least", "most"] sp_is_number) {f : Addr} {fd : FuncData} (F : FunD K "is_wind" "is_wind" (defArgs s_is_wind) (defBody s_is_wind) (defScope s_is_wind) [] [] f fd) : FnOk P w K mg base (L2N.CX P w) 2 f fd ["value"] (upX K cl tb sp_is_wind) :=
  fnX F sc_is_wind (t := fun _ => t_is_wind) (fun cdv A outer sh H E0 c E  hcc hr tk => dv_is_wind G F_is_number cdv A outer sh H E0 c hcc hr) pure_is_wind
theorem dv_moved_cell (G : Gb P w K mg base cl) {f : Addr} (cdv : Value) (A : Around) (outer : List Env) (sh : Shared) (H : Hp) (E0 : XK) (c : Wd) (E : DXK) (hcc : Cc cl tb c) (hr : Room 2 (A.deeper (PyProof.Rows.envOfC "moved_cell" (defScope s_moved_cell) sh.heap.objs.size f cdv))) (tk : Tk c (cxOf (L2N.CX P w) P w K mg base ["cell", "direction", "down", "right"] "moved_cell" (defScope s_moved_cell) f cdv A outer sh H E0) E) :
    PDSs c (cxOf (L2N.CX P w) P w K mg base ["cell", "direction", "down", "right"] "moved_cell" (defScope s_moved_cell) f cdv A outer sh H E0) (defBody s_moved_cell) (t_moved_cell E) :=
    (pdss_cons (pds_if (PW.pt (pdw_or (pdt_not (pdt_val (pd_callB isi_D rfl G.b_isinstance (by decide +kernel) (pda_cons (pd_var 1) (pda_cons (pd_ty G.b_str (by decide +kernel)) pda_nil))))) (pdw_one (pdt_ninK G.k_OFFSETS (pd_var 1))))) (pdss_one (pds_raise hcc.cl rfl G.x_InvalidMirror (hr.mono (by decide)) tk (pda_cons (pd_var 1) pda_nil))) pdss_nil)
      (pdss_cons (pds_asg (vs := [2, 3]) (pd_ixK G.k_OFFSETS (pd_var 1)) (pdg_tup rfl (pdgs_cons (pdg_name (i := 2) sc_moved_cell.nd) (pdgs_cons (pdg_name (i := 3) sc_moved_cell.nd) pdgs_nil))))
      (pdss_one (pds_ret (pd_tup (pda_cons (pd_op opD_add (pd_ix (pd_var 0) pd_int) (pd_var 2)) (pda_cons (pd_op opD_add (pd_ix (pd_var 0) pd_int) (pd_var 3)) pda_nil)))))))
theorem ok_moved_cell (G : Gb P w K mg base cl) {f : Addr} {fd : FuncData} (F : FunD K "moved_cell" "moved_cell" (defArgs s_moved_cell) (defBody s_moved_cell) (defScope s_moved_cell) [] [] f fd) : FnOk P w K mg base (L2N.CX P w) 3 f fd ["cell", "direction"] (upX K cl tb sp_moved_cell) :=
  fnX F sc_moved_cell (t := fun E => t_moved_cell E) (fun cdv A outer sh H E0 c E  hcc hr tk => dv_moved_cell G cdv A outer sh H E0 c E hcc hr tk) pure_moved_cell
theorem dv__law_bag (G : Gb P w K mg base cl) {f : Addr} (cdv : Value) (A : Around) (outer : List Env) (sh : Shared) (H : Hp) (E0 : XK) (c : Wd) (hcc : Cc cl tb c) (hr : Room 0 (A.deeper (PyProof.Rows.envOfC "_law_bag" (defScope s__law_bag) sh.heap.objs.size f cdv))) :
    PDSs c (cxOf (L2N.CX P w) P w K mg base ["_law_script", "_law_cells_z", "_law_cell_z", "_law_mark"] "_law_bag" (defScope s__law_bag) f cdv A outer sh H E0) (defBody s__law_bag) (t__law_bag) :=
    (pdss_cons (pds_setLc (i := 1) (own := [("_law_cell_z", 2)]) (us := [2]) rfl sc__law_bag.nd (pdi_any (pd_slice (pd_var 0) pdo_none (pdo_some pd_int))) (blkOk_by (N := ["_law_script", "_law_cells_z", "_law_cell_z", "_law_mark"]) (sc := defScope s__law_bag) (own := [("_law_cell_z", 2)]) (by decide +kernel)) (fun c1 sc1 _ _ _ _ _ => (pdg_name (i := 2) sc__law_bag.nd)) (fun c1 sc1 _ _ _ _ _ => pdts_nil) (fun c1 sc1 _ _ _ _ _ => (pd_callTy int_D rfl G.b_int (by decide +kernel) (pda_cons (pd_var 2) pda_nil))) (sw_true rfl rfl rfl (by decide +kernel)))
      (pdss_cons (pds_set (i := 3) sc__law_bag.nd (pd_op opD_add pd_int (pd_op opD_mul pd_int (pd_callB len_D rfl G.b_len PySem.boot_len (pda_cons (pd_var 1) pda_nil)))))
      (pdss_cons (pds_for (vs := [2]) (passes_of rfl) rfl (pdi_any (pd_var 1)) (pdg_name (i := 2) sc__law_bag.nd) (pdss_one (pds_set (i := 3) sc__law_bag.nd (pd_op opD_mod (pd_callTy int_D rfl G.b_int (by decide +kernel) (pda_cons (pd_op opD_add (pd_op opD_mul (pd_var 3) pd_int) (pd_var 2)) pda_nil)) pd_int))))
      (pdss_one (pds_ret (pd_bag (pda_cons (pd_var 1) (pda_cons pd_int (pda_cons pd_int (pda_cons (pd_var 3) pda_nil))))))))))
theorem ok__law_bag (G : Gb P w K mg base cl) {f : Addr} {fd : FuncData} (F : FunD K "_law_bag" "_law_bag" (defArgs s__law_bag) (defBody s__law_bag) (defScope s__law_bag) [] [] f fd) : FnOk P w K mg base (L2N.CX P w) 1 f fd ["_law_script"] (upX K cl tb sp__law_bag) :=
  fnX F sc__law_bag (t := fun _ => t__law_bag) (fun cdv A outer sh H E0 c E  hcc hr tk => dv__law_bag G cdv A outer sh H E0 c hcc hr) pure__law_bag
theorem dv__law_draw (G : Gb P w K mg base cl) {f : Addr} (cdv : Value) (A : Around) (outer : List Env) (sh : Shared) (H : Hp) (E0 : XK) (c : Wd) (hcc : Cc cl tb c) (hr : Room 0 (A.deeper (PyProof.Rows.envOfC "_law_draw" (defScope s__law_draw) sh.heap.objs.size f cdv))) :
    PDSs c (cxOf (L2N.CX P w) P w K mg base ["_law_bag_here", "_law_many", "_law_cell_z", "_law_mixed", "_law_second", "_law_digit"] "_law_draw" (defScope s__law_draw) f cdv A outer sh H E0) (defBody s__law_draw) (t__law_draw) :=
    (pdss_cons (pds_if (pdt_cmp opD_lt (pd_ix (pd_var 0) pd_int) pd_int) (pdss_cons (pds_asg (vs := []) (pd_op opD_add (pd_ix (pd_var 0) pd_int) pd_int) (pdg_ix (pd_var 0) pd_int))
      (pdss_cons (pds_set (i := 2) sc__law_draw.nd (pd_op opD_add (pd_ix (pd_var 0) pd_int) (pd_op opD_mul (pd_ix (pd_var 0) pd_int) pd_int)))
      (pdss_cons (pds_if (pdt_cmp opD_le (pd_ix (pd_var 0) pd_int) (pd_callB len_D rfl G.b_len PySem.boot_len (pda_cons (pd_ix (pd_var 0) pd_int) pda_nil))) (pdss_one (pds_set (i := 2) sc__law_draw.nd (pd_ix (pd_ix (pd_var 0) pd_int) (pd_op opD_sub (pd_ix (pd_var 0) pd_int) pd_int)))) pdss_nil)
      (pdss_cons (pds_if (PW.pt (pdw_or (pdt_cmp opD_gt (pd_ix (pd_var 0) pd_int) (pd_callB len_D rfl G.b_len PySem.boot_len (pda_cons (pd_ix (pd_var 0) pd_int) pda_nil))) (pdw_one (pdt_cmp opD_lt (pd_var 2) (pd_op opD_pow pd_int pd_int))))) (pdss_cons (pds_set (i := 3) sc__law_draw.nd (pd_op opD_mod (pd_callTy int_D rfl G.b_int (by decide +kernel) (pda_cons (pd_op opD_add (pd_op opD_add (pd_op opD_mul (pd_var 2) pd_int) (pd_op opD_mul (pd_ix (pd_var 0) pd_int) pd_int)) (pd_ix (pd_var 0) pd_int)) pda_nil)) pd_int))
      (pdss_cons (pds_set (i := 4) sc__law_draw.nd (pd_op opD_mod (pd_callTy int_D rfl G.b_int (by decide +kernel) (pda_cons (pd_op opD_add (pd_op opD_mul (pd_var 3) (pd_var 3)) (pd_op opD_mul (pd_ix (pd_var 0) pd_int) pd_int)) pda_nil)) pd_int))
      (pdss_one (pds_ret (pd_op opD_mod (pd_op opD_fdiv (pd_op opD_mod (pd_callTy int_D rfl G.b_int (by decide +kernel) (pda_cons (pd_op opD_add (pd_op opD_mul (pd_var 4) pd_int) (pd_var 3)) pda_nil)) pd_int) pd_int) (pd_var 1)))))) pdss_nil)
      (pdss_one (pds_asg (vs := []) (pd_var 2) (pdg_ix (pd_var 0) pd_int))))))) pdss_nil)
      (pdss_cons (pds_set (i := 5) sc__law_draw.nd (pd_op opD_mod (pd_callTy int_D rfl G.b_int (by decide +kernel) (pda_cons (pd_ix (pd_var 0) pd_int) pda_nil)) (pd_var 1)))
      (pdss_cons (pds_asg (vs := []) (pd_op opD_fdiv (pd_callTy int_D rfl G.b_int (by decide +kernel) (pda_cons (pd_ix (pd_var 0) pd_int) pda_nil)) (pd_var 1)) (pdg_ix (pd_var 0) pd_int))
      (pdss_one (pds_ret (pd_var 5))))))
theorem ok__law_draw (G : Gb P w K mg base cl) {f : Addr} {fd : FuncData} (F : FunD K "_law_draw" "_law_draw" (defArgs s__law_draw) (defBody s__law_draw) (defScope s__law_draw) [] [] f fd) : FnOk P w K mg base (L2N.CX P w) 1 f fd ["_law_bag_here", "_law_many"] (upX K cl tb sp0__law_draw) :=
  fnX F sc__law_draw (t := fun _ => t__law_draw) (fun cdv A outer sh H E0 c E  hcc hr tk => dv__law_draw G cdv A outer sh H E0 c hcc hr) pure__law_draw
theorem dv__law_pick (G : Gb P w K mg base cl) (F__law_draw : Fnd P w K mg base cl tb 1 "_law_draw" s__law_draw ["_law_bag_here", "_law_many"] sp__law_draw) {f : Addr} (cdv : Value) (A : Around) (outer : List Env) (sh : Shared) (H : Hp) (E0 : XK) (c : Wd) (hcc : Cc cl tb c) (hr : Room 1 (A.deeper (PyProof.Rows.envOfC "_law_pick" (defScope s__law_pick) sh.heap.objs.size f cdv))) :
    PDSs c (cxOf (L2N.CX P w) P w K mg base ["_law_bag_here", "_law_some"] "_law_pick" (defScope s__law_pick) f cdv A outer sh H E0) (defBody s__law_pick) (t__law_pick) :=
    (pdss_one (pds_ret (pd_ix (pd_var 1) (pd_call hcc F__law_draw (hr.mono (by decide)) tk0 (pda_cons (pd_var 0) (pda_cons (pd_callB len_D rfl G.b_len PySem.boot_len (pda_cons (pd_var 1) pda_nil)) pda_nil))))))
theorem ok__law_pick (G : Gb P w K mg base cl) (F__law_draw : Fnd P w K mg base cl tb 1 "_law_draw" s__law_draw ["_law_bag_here", "_law_many"] sp__law_draw) {f : Addr} {fd : FuncData} (F : FunD K "_law_pick" "_law_pick" (defArgs s__law_pick) (defBody s__law_pick) (defScope s__law_pick) [] [] f fd) : FnOk P w K mg base (L2N.CX P w) 2 f fd ["_law_bag_here", "_law_some"] (upX K cl tb sp__law_pick) :=
  fnX F sc__law_pick (t := fun _ => t__law_pick) (fun cdv A outer sh H E0 c E  hcc hr tk => dv__law_pick G F__law_draw cdv A outer sh H E0 c hcc hr) pure__law_pick
theorem dv__law_same (G : Gb P w K mg base cl) {sp__law_same : DSp} {k : Nat} (F__law_same : Fnd P w K mg base cl tb k "_law_same" s__law_same ["_law_found", "_law_due"] sp__law_same) {f : Addr} (cdv : Value) (A : Around) (outer : List Env) (sh : Shared) (H : Hp) (E0 : XK) (c : Wd) (hcc : Cc cl tb c) (hr : Room k (A.deeper (PyProof.Rows.envOfC "_law_same" (defScope s__law_same) sh.heap.objs.size f cdv))) :
    PDSs c (cxOf (L2N.CX P w) P w K mg base ["_law_found", "_law_due", "_law_one", "_law_two"] "_law_same" (defScope s__law_same) f cdv A outer sh H E0) (defBody s__law_same) (t__law_same sp__law_same) :=
    (pdss_cons (pds_if (PW.pt (pdw_or (pdt_cmp opD_is (pd_var 1) pd_non) (pdw_one (pdt_cmp opD_is (pd_var 0) pd_non)))) (pdss_one (pds_ret (pd_and (pd_cmp opD_is (pd_var 1) pd_non) (pd_one (pd_cmp opD_is (pd_var 0) pd_non))))) pdss_nil)
      (pdss_cons (pds_if (PW.pt (pdw_or (pdt_val (pd_callB isi_D rfl G.b_isinstance (by decide +kernel) (pda_cons (pd_var 1) (pda_cons (pd_tup (pda_cons (pd_ty G.b_list (by decide +kernel)) (pda_cons (pd_ty G.b_tuple (by decide +kernel)) pda_nil))) pda_nil)))) (pdw_one (pdt_val (pd_callB isi_D rfl G.b_isinstance (by decide +kernel) (pda_cons (pd_var 0) (pda_cons (pd_tup (pda_cons (pd_ty G.b_list (by decide +kernel)) (pda_cons (pd_ty G.b_tuple (by decide +kernel)) pda_nil))) pda_nil))))))) (pdss_cons (pds_if (PW.pt (pdw_or (pdt_cmp (ne_flat hr.units) (pd_callB isi_D rfl G.b_isinstance (by decide +kernel) (pda_cons (pd_var 1) (pda_cons (pd_ty G.b_list (by decide +kernel)) pda_nil))) (pd_callB isi_D rfl G.b_isinstance (by decide +kernel) (pda_cons (pd_var 0) (pda_cons (pd_ty G.b_list (by decide +kernel)) pda_nil)))) (pdw_one (pdt_cmp (ne_flat hr.units) (pd_callB isi_D rfl G.b_isinstance (by decide +kernel) (pda_cons (pd_var 1) (pda_cons (pd_ty G.b_tuple (by decide +kernel)) pda_nil))) (pd_callB isi_D rfl G.b_isinstance (by decide +kernel) (pda_cons (pd_var 0) (pda_cons (pd_ty G.b_tuple (by decide +kernel)) pda_nil))))))) (pdss_one (pds_ret pd_bl)) pdss_nil)
      (pdss_one (pds_ret (pd_and (pd_cmp (eq_flat hr.units) (pd_callB len_D rfl G.b_len PySem.boot_len (pda_cons (pd_var 0) pda_nil)) (pd_callB len_D rfl G.b_len PySem.boot_len (pda_cons (pd_var 1) pda_nil))) (pd_one (pd_callB (all_D rfl) rfl G.b_all (by decide +kernel) (pda_cons (pd_lc (own := [("_law_one", 2), ("_law_two", 3)]) (us := [2, 3]) rfl sc__law_same.nd (pdi_zip G.b_zip (pda_cons (pd_var 0) (pda_cons (pd_var 1) pda_nil))) (blkOk_by (N := ["_law_found", "_law_due", "_law_one", "_law_two"]) (sc := defScope s__law_same) (own := [("_law_one", 2), ("_law_two", 3)]) (by decide +kernel)) (fun c1 sc1 _ _ _ _ _ => (pdg_tup rfl (pdgs_cons (pdg_name (i := 2) sc__law_same.nd) (pdgs_cons (pdg_name (i := 3) sc__law_same.nd) pdgs_nil)))) (fun c1 sc1 _ _ _ _ _ => pdts_nil) (fun c1 sc1 _ _ _ _ _ => (pd_call (hcc.sc sc1) F__law_same hr tk0 (pda_cons (pd_var 2) (pda_cons (pd_var 3) pda_nil))))) pda_nil))))))) pdss_nil)
      (pdss_cons (pds_if (PW.pt (pdw_or (pdt_cmp (ne_flat hr.units) (pd_callB isi_D rfl G.b_isinstance (by decide +kernel) (pda_cons (pd_var 1) (pda_cons (pd_ty G.b_bool (by decide +kernel)) pda_nil))) (pd_callB isi_D rfl G.b_isinstance (by decide +kernel) (pda_cons (pd_var 0) (pda_cons (pd_ty G.b_bool (by decide +kernel)) pda_nil)))) (pdw_one (pdt_cmp (ne_flat hr.units) (pd_callB isi_D rfl G.b_isinstance (by decide +kernel) (pda_cons (pd_var 1) (pda_cons (pd_ty G.b_str (by decide +kernel)) pda_nil))) (pd_callB isi_D rfl G.b_isinstance (by decide +kernel) (pda_cons (pd_var 0) (pda_cons (pd_ty G.b_str (by decide +kernel)) pda_nil))))))) (pdss_one (pds_ret pd_bl)) pdss_nil)
      (pdss_one (pds_ret (pd_and (pd_cmp (eq_flat hr.units) (pd_callB isi_D rfl G.b_isinstance (by decide +kernel) (pda_cons (pd_var 1) (pda_cons (pd_ty G.b_int (by decide +kernel)) pda_nil))) (pd_callB isi_D rfl G.b_isinstance (by decide +kernel) (pda_cons (pd_var 0) (pda_cons (pd_ty G.b_int (by decide +kernel)) pda_nil)))) (pd_one (pd_cmp (eq_flat hr.units) (pd_var 0) (pd_var 1)))))))))
theorem same_ok (G : Gb P w K mg base cl) {f : Addr} {fd : FuncData} (F : FunD K "_law_same" "_law_same" (defArgs s__law_same) (defBody s__law_same) (defScope s__law_same) [] [] f fd) (hm : mg "_law_same" = some (.ref f)) (hb : Binds K fd ["_law_found", "_law_due"] []) : ∀ n : Nat, Fnd P w K mg base cl tb (n + 2) "_law_same" s__law_same ["_law_found", "_law_due"] (spSame n)
  | 0 => ⟨f, fd, F, fnX F sc__law_same (t := fun _ => t__law_same (spPrev 0)) (fun cdv A outer sh H E c E' hcc hr _ => dv__law_same (sp__law_same := spPrev 0) G (Fnd.no F hm hb) cdv A outer sh H E c hcc hr) (pure__law_same 0), hm, hb⟩
  | n + 1 => ⟨f, fd, F, fnX F sc__law_same (t := fun _ => t__law_same (spPrev (n + 1))) (fun cdv A outer sh H E c E' hcc hr _ => dv__law_same (sp__law_same := spPrev (n + 1)) G (same_ok G F hm hb n) cdv A outer sh H E c hcc hr) (pure__law_same (n + 1)), hm, hb⟩
theorem dv__law_field (G : Gb P w K mg base cl) {f : Addr} (cdv : Value) (A : Around) (outer : List Env) (sh : Shared) (H : Hp) (E : XK) (p : Addr × Obj) (c : Wd) (m : Str) (dd : Addr) (hcl : c.cl = cl) (hex : c.ex = some (p.1, c.cl m, dd)) (hz : L2N.Zn (.ref (c.cl m)) (some dd) p.2) (hv : ∃ vs, p.2.data = .fields vs) (hr : L2H.RoomH 0 (A.deeper (PyProof.Rows.envOfC "_law_field" (defScope s__law_field) sh.heap.objs.size f cdv))) :
    PDSs c (L2H.cxH CX0 P w K mg base ["_law_e"] "_law_field" (defScope s__law_field) f cdv A outer sh H E p) (defBody s__law_field) (t__law_field xnames) :=
    (pdss_cons (pds_if (pdt_cmp (eq_flat (RoomH.units hr)) (pd_xf (G.xf hcl (by decide)) hex List.mem_cons_self hz hv (pd_var 0)) pd_str) (pdss_one (pds_ret (pd_tup (pda_cons (pd_xf (G.xf hcl (by decide)) hex List.mem_cons_self hz hv (pd_var 0)) (pda_cons (pd_xf (G.xf hcl (by decide)) hex List.mem_cons_self hz hv (pd_var 0)) pda_nil))))) pdss_nil)
      (pdss_cons (pds_if (pdt_cmp (eq_flat (RoomH.units hr)) (pd_xf (G.xf hcl (by decide)) hex List.mem_cons_self hz hv (pd_var 0)) pd_str) (pdss_one (pds_ret (pd_tup (pda_cons (pd_xf (G.xf hcl (by decide)) hex List.mem_cons_self hz hv (pd_var 0)) (pda_cons (pd_xf (G.xf hcl (by decide)) hex List.mem_cons_self hz hv (pd_var 0)) pda_nil))))) pdss_nil)
      (pdss_cons (pds_if (pdt_cmp opD_in (pd_xf (G.xf hcl (by decide)) hex List.mem_cons_self hz hv (pd_var 0)) (pd_tup (pda_cons pd_str (pda_cons pd_str (pda_cons pd_str (pda_cons pd_str pda_nil)))))) (pdss_one (pds_ret (pd_tup (pda_cons (pd_xf (G.xf hcl (by decide)) hex List.mem_cons_self hz hv (pd_var 0)) pda_nil)))) pdss_nil)
      (pdss_cons (pds_if (pdt_cmp (eq_flat (RoomH.units hr)) (pd_xf (G.xf hcl (by decide)) hex List.mem_cons_self hz hv (pd_var 0)) pd_str) (pdss_one (pds_ret (pd_tup (pda_cons (pd_xf (G.xf hcl (by decide)) hex List.mem_cons_self hz hv (pd_var 0)) pda_nil)))) pdss_nil)
      (pdss_one (pds_ret (pd_if (pdt_cmp opD_in (pd_xf (G.xf hcl (by decide)) hex List.mem_cons_self hz hv (pd_var 0)) (pd_tup (pda_cons pd_str (pda_cons pd_str (pda_cons pd_str pda_nil))))) (pd_tup pda_nil) (pd_tup (pda_cons (pd_xf (G.xf hcl (by decide)) hex List.mem_cons_self hz hv (pd_var 0)) pda_nil)))))))))
theorem ok__law_field (G : Gb P w K mg base cl) {f : Addr} {fd : FuncData} (F : FunD K "_law_field" "_law_field" (defArgs s__law_field) (defBody s__law_field) (defScope s__law_field) [] [] f fd) : FnHp P w K mg base CX0 1 f fd ["_law_e"] (upH K cl (sp__law_field xnames)) :=
  fnH F sc__law_field (fun cdv A outer sh H E p c m dd hcl hex hz hv hr => dv__law_field G cdv A outer sh H E p c m dd hcl hex hz hv hr) (pure__law_field xnames)
theorem dv__law_try (G : Gb P w K mg base cl) (F__law_field : FndH P w K mg base cl 1 "_law_field" s__law_field ["_law_e"] (sp__law_field xnames)) {g : Addr} {A : Around} {outer : List Env} (f : Addr) (tl : DAct) (cdv : Value) (s : Shared) (H : Hp) (cg : Wd) (hcc : Cc cl tb cg) (hr : Room 1 (A.deeper (PyProof.Rows.envOfC "_law_try" (defScope s__law_try) s.heap.objs.size g cdv)))
    (act : ∀ (cb : Wd) (E' : DXK) (pn : List (Addr × Obj)) (xe : Value → Shared → Prop) (p1 p2 : Pos), Cc cl tb cb → Kp cg cb → Tk cb ((cxOf CX0 P w K mg base ["_law_ask", "_law_e"] "_law_try" (defScope s__law_try) g cdv A outer s H E0).tr pn xe) E' → PD cb ((cxOf CX0 P w K mg base ["_law_ask", "_law_e"] "_law_try" (defScope s__law_try) g cdv A outer s H E0).tr pn xe) (.Call (.Name "_law_ask" p1) [] [] p2) (dAct f tl E')) :
    PDSs cg (cxOf CX0 P w K mg base ["_law_ask", "_law_e"] "_law_try" (defScope s__law_try) g cdv A outer s H E0) (defBody s__law_try) (t__law_try xnames f tl) :=
    (pdss_one (pds_try2 (i := 1) (G.cat hcc.cl) hcc.ex sc__law_try.nd ⟨rfl, by decide, .inl G.g_SkyError⟩ ⟨rfl, by decide, .inl G.g_Missing⟩
      (fun cb E' pn xe kp tk hp => (pdss_one (pds_ret (pd_tup (pda_cons pd_str (pda_cons (act cb E' pn xe _ _ (hcc.sc kp.sc) kp tk) pda_nil))))))
      (fun c2 a oe m dd pn hcl2 htb2 hex2 hz hv => (pdss_one (pds_ret (pd_op opD_add (pd_tup (pda_cons pd_str (pda_cons (pd_xf (G.xf (hcl2.trans hcc.cl) (by decide)) hex2 List.mem_cons_self hz hv (pd_var 1)) pda_nil))) (pd_callH (hcl2.trans hcc.cl) hex2 List.mem_cons_self rfl hz hv F__law_field ((roomH_suite hr a).mono (by decide)) (pda_cons (pd_var 1) pda_nil))))))))
theorem dv__law_gust (G : Gb P w K mg base cl) (F__law_draw : Fnd P w K mg base cl tb 1 "_law_draw" s__law_draw ["_law_bag_here", "_law_many"] sp__law_draw) (F__law_pick : Fnd P w K mg base cl tb 2 "_law_pick" s__law_pick ["_law_bag_here", "_law_some"] sp__law_pick) {f : Addr} (cdv : Value) (A : Around) (outer : List Env) (sh : Shared) (H : Hp) (E0 : XK) (c : Wd) (hcc : Cc cl tb c) (hr : Room 2 (A.deeper (PyProof.Rows.envOfC "_law_gust" (defScope s__law_gust) sh.heap.objs.size f cdv))) :
    PDSs c (cxOf (L2N.CX P w) P w K mg base ["_law_bag_here", "_law_k"] "_law_gust" (defScope s__law_gust) f cdv A outer sh H E0) (defBody s__law_gust) (t__law_gust) :=
    (pdss_one (pds_ret (pd_callTy tup_D rfl G.b_tuple (by decide +kernel) (pda_cons (pd_lc (own := [("_law_k", 1)]) (us := [1]) rfl sc__law_gust.nd (pdi_range1 G.b_range (pda_cons pd_int pda_nil)) (blkOk_by (N := ["_law_bag_here", "_law_k"]) (sc := defScope s__law_gust) (own := [("_law_k", 1)]) (by decide +kernel)) (fun c1 sc1 _ _ _ _ _ => (pdg_name (i := 1) sc__law_gust.nd)) (fun c1 sc1 _ _ _ _ _ => pdts_nil) (fun c1 sc1 _ _ _ _ _ => (pd_call (hcc.sc sc1) F__law_pick (hr.mono (by decide)) tk0 (pda_cons (pd_var 0) (pda_cons (pd_lst (pda_cons pd_non (pda_cons pd_int (pda_cons pd_int (pda_cons pd_int (pda_cons pd_int (pda_cons pd_int (pda_cons pd_int (pda_cons pd_int (pda_cons pd_int (pda_cons pd_int (pda_cons (pd_call (hcc.sc sc1) F__law_draw (hr.mono (by decide)) tk0 (pda_cons (pd_var 0) (pda_cons pd_int pda_nil))) pda_nil)))))))))))) pda_nil))))) pda_nil))))
theorem ok__law_gust (G : Gb P w K mg base cl) (F__law_draw : Fnd P w K mg base cl tb 1 "_law_draw" s__law_draw ["_law_bag_here", "_law_many"] sp__law_draw) (F__law_pick : Fnd P w K mg base cl tb 2 "_law_pick" s__law_pick ["_law_bag_here", "_law_some"] sp__law_pick) {f : Addr} {fd : FuncData} (F : FunD K "_law_gust" "_law_gust" (defArgs s__law_gust) (defBody s__law_gust) (defScope s__law_gust) [] [] f fd) : FnOk P w K mg base (L2N.CX P w) 3 f fd ["_law_bag_here"] (upX K cl tb sp__law_gust) :=
  fnX F sc__law_gust (t := fun _ => t__law_gust) (fun cdv A outer sh H E0 c E  hcc hr tk => dv__law_gust G F__law_draw F__law_pick cdv A outer sh H E0 c hcc hr) pure__law_gust
theorem dv__law_moves (G : Gb P w K mg base cl) {f : Addr} (cdv : Value) (A : Around) (outer : List Env) (sh : Shared) (H : Hp) (E0 : XK) (c : Wd) (hcc : Cc cl tb c) (hr : Room 0 (A.deeper (PyProof.Rows.envOfC "_law_moves" (defScope s__law_moves) sh.heap.objs.size f cdv))) :
    PDSs c (cxOf (L2N.CX P w) P w K mg base [] "_law_moves" (defScope s__law_moves) f cdv A outer sh H E0) (defBody s__law_moves) (t__law_moves) :=
    (pdss_one (pds_ret (pd_lst (pda_cons (pd_tup (pda_cons pd_int (pda_cons pd_int pda_nil))) (pda_cons (pd_tup (pda_cons (pd_neg pd_int) (pda_cons pd_int pda_nil))) (pda_cons (pd_tup (pda_cons pd_int (pda_cons pd_int pda_nil))) (pda_cons (pd_tup (pda_cons pd_int (pda_cons pd_int pda_nil))) (pda_cons (pd_tup (pda_cons pd_int (pda_cons (pd_neg pd_int) pda_nil))) pda_nil))))))))
theorem ok__law_moves (G : Gb P w K mg base cl) {f : Addr} {fd : FuncData} (F : FunD K "_law_moves" "_law_moves" (defArgs s__law_moves) (defBody s__law_moves) (defScope s__law_moves) [] [] f fd) : FnOk P w K mg base (L2N.CX P w) 1 f fd [] (upX K cl tb sp__law_moves) :=
  fnX F sc__law_moves (t := fun _ => t__law_moves) (fun cdv A outer sh H E0 c E  hcc hr tk => dv__law_moves G cdv A outer sh H E0 c hcc hr) pure__law_moves
theorem dv__law_is_gust (G : Gb P w K mg base cl) {f : Addr} (cdv : Value) (A : Around) (outer : List Env) (sh : Shared) (H : Hp) (E0 : XK) (c : Wd) (hcc : Cc cl tb c) (hr : Room 0 (A.deeper (PyProof.Rows.envOfC "_law_is_gust" (defScope s__law_is_gust) sh.heap.objs.size f cdv))) :
    PDSs c (cxOf (L2N.CX P w) P w K mg base ["_law_thing", "_law_cost"] "_law_is_gust" (defScope s__law_is_gust) f cdv A outer sh H E0) (defBody s__law_is_gust) (t__law_is_gust) :=
    (pdss_cons (pds_if (PW.pt (pdw_or (pdt_not (pdt_val (pd_callB isi_D rfl G.b_isinstance (by decide +kernel) (pda_cons (pd_var 0) (pda_cons (pd_ty G.b_tuple (by decide +kernel)) pda_nil))))) (pdw_one (pdt_cmp (ne_flat hr.units) (pd_callB len_D rfl G.b_len PySem.boot_len (pda_cons (pd_var 0) pda_nil)) pd_int)))) (pdss_one (pds_ret pd_bl)) pdss_nil)
      (pdss_cons (pds_for (vs := [1]) (passes_of rfl) rfl (pdi_any (pd_var 0)) (pdg_name (i := 1) sc__law_is_gust.nd) (pdss_one (pds_if (PW.pt (pdw_and (pdt_cmp opD_isnot (pd_var 1) pd_non) (pdw_one (PW.pt (pdw_or (pdt_val (pd_callB isi_D rfl G.b_isinstance (by decide +kernel) (pda_cons (pd_var 1) (pda_cons (pd_ty G.b_bool (by decide +kernel)) pda_nil)))) (pdw_or (pdt_not (pdt_val (pd_callB isi_D rfl G.b_isinstance (by decide +kernel) (pda_cons (pd_var 1) (pda_cons (pd_ty G.b_int (by decide +kernel)) pda_nil))))) (pdw_or (pdt_cmp opD_lt (pd_var 1) pd_int) (pdw_one (pdt_cmp opD_gt (pd_var 1) pd_int))))))))) (pdss_one (pds_ret pd_bl)) pdss_nil)))
      (pdss_one (pds_ret pd_bl))))
theorem ok__law_is_gust (G : Gb P w K mg base cl) {f : Addr} {fd : FuncData} (F : FunD K "_law_is_gust" "_law_is_gust" (defArgs s__law_is_gust) (defBody s__law_is_gust) (defScope s__law_is_gust) [] [] f fd) : FnOk P w K mg base (L2N.CX P w) 1 f fd ["_law_thing"] (upX K cl tb sp__law_is_gust) :=
  fnX F sc__law_is_gust (t := fun _ => t__law_is_gust) (fun cdv A outer sh H E0 c E  hcc hr tk => dv__law_is_gust G cdv A outer sh H E0 c hcc hr) pure__law_is_gust
theorem dv__law_words (G : Gb P w K mg base cl) {f : Addr} (cdv : Value) (A : Around) (outer : List Env) (sh : Shared) (H : Hp) (E0 : XK) (c : Wd) (hcc : Cc cl tb c) (hr : Room 0 (A.deeper (PyProof.Rows.envOfC "_law_words" (defScope s__law_words) sh.heap.objs.size f cdv))) :
    PDSs c (cxOf (L2N.CX P w) P w K mg base [] "_law_words" (defScope s__law_words) f cdv A outer sh H E0) (defBody s__law_words) (t__law_words) :=
    (pdss_one (pds_ret (pd_lst (pda_cons pd_str (pda_cons pd_str (pda_cons pd_str (pda_cons pd_str (pda_cons pd_str pda_nil))))))))
theorem ok__law_words (G : Gb P w K mg base cl) {f : Addr} {fd : FuncData} (F : FunD K "_law_words" "_law_words" (defArgs s__law_words) (defBody s__law_words) (defScope s__law_words) [] [] f fd) : FnOk P w K mg base (L2N.CX P w) 1 f fd [] (upX K cl tb sp__law_words) :=
  fnX F sc__law_words (t := fun _ => t__law_words) (fun cdv A outer sh H E0 c E  hcc hr tk => dv__law_words G cdv A outer sh H E0 c hcc hr) pure__law_words
theorem dv_law (G : Gb P w K mg base cl) (F__law_bag : Fnd P w K mg base cl tb 1 "_law_bag" s__law_bag ["_law_script"] sp__law_bag) (F__law_draw : Fnd P w K mg base cl tb 1 "_law_draw" s__law_draw ["_law_bag_here", "_law_many"] sp__law_draw) (F__law_gust : Fnd P w K mg base cl tb 3 "_law_gust" s__law_gust ["_law_bag_here"] sp__law_gust) (F__law_is_gust : Fnd P w K mg base cl tb 1 "_law_is_gust" s__law_is_gust ["_law_thing"] sp__law_is_gust) (F__law_moves : Fnd P w K mg base cl tb 1 "_law_moves" s__law_moves [] sp__law_moves) (F__law_pick : Fnd P w K mg base cl tb 2 "_law_pick" s__law_pick ["_law_bag_here", "_law_some"] sp__law_pick) (F__law_same : Fnd P w K mg base cl tb 8 "_law_same" s__law_same ["_law_found", "_law_due"] sp__law_same) {g__law_try : Addr} {fd__law_try : FuncData} (F__law_try : FunD K "_law_try" "_law_try" (defArgs s__law_try) (defBody s__law_try) (defScope s__law_try) [] [] g__law_try fd__law_try ∧ mg "_law_try" = some (.ref g__law_try) ∧ L2.Binds K fd__law_try ["_law_ask"] []) (F__law_field : FndH P w K mg base cl 1 "_law_field" s__law_field ["_law_e"] (sp__law_field xnames)) (F__law_words : Fnd P w K mg base cl tb 1 "_law_words" s__law_words [] sp__law_words) (F_is_wind : Fnd P w K mg base cl tb 2 "is_wind" s_is_wind ["value"] sp_is_wind) (F_moved_cell : Fnd P w K mg base cl tb 3 "moved_cell" s_moved_cell ["cell", "direction"] sp_moved_cell) {cc Pt : Addr} (htb : (Pt, (PyProof.Rows.envOfC "law" (defScope s_law) 0 0 .none).qual ++ "<lambda>") ∈ tb) (hu : ∀ p ∈ tb, p.1 = Pt → p.2 = (PyProof.Rows.envOfC "law" (defScope s_law) 0 0 .none).qual ++ "<lambda>") (TB : TabB base mg cc Pt) {f : Addr} (cdv : Value) (hcode : cdv = .ref cc) (A : Around) (outer : List Env) (sh : Shared) (H : Hp) (E0 : XK) (c : Wd) (hcc : Cc cl tb c) (hr : Room 8 (A.deeper (PyProof.Rows.envOfC "law" (defScope s_law) sh.heap.objs.size f cdv))) :
    PDSs c (cxOf (L2N.CX P w) P w K mg base ["_law_script", "_law_bag_here", "_law_turn", "_law_gust_here", "_law_spot", "_law_odd", "_law_bent", "_law_some", "_law_thing", "_law_room", "_law_made", "_law_move", "_law_word", "_law_backs", "_law_bad"] "law" (defScope s_law) f cdv A outer sh H E0) (defBody s_law) (t_law xnames) :=
    (pdss_cons (pds_set (i := 1) sc_law.nd (pd_call hcc F__law_bag (hr.mono (by decide)) tk0 (pda_cons (pd_var 0) pda_nil)))
      (pdss_cons (pds_if (pdt_not (pdt_val (pd_call hcc F__law_same (hr.mono (by decide)) tk0 (pda_cons (pd_lst (pda_cons (pd_globC G.c_DIRECTIONS) (pda_cons (pd_callK0 (ks := ["value"]) (m := 1) hcc Kw_is_wind_value.g (fun R a b => Kw_is_wind_value.rel R a b) (fun K w a b => Kw_is_wind_value.relL K w a b) bk_Kw_is_wind_value F_is_wind (hr.mono (by decide)) tk0 (pdk_cons (pd_tup (pda_cons pd_int (pda_cons pd_int (pda_cons pd_non (pda_cons pd_int (pda_cons pd_int pda_nil)))))) pdk_nil)) pda_nil))) (pda_cons (pd_lst (pda_cons (pd_callTy tup_D rfl G.b_tuple (by decide +kernel) (pda_cons (pd_call0 hcc F__law_words (hr.mono (by decide)) tk0) pda_nil)) (pda_cons pd_bl pda_nil))) pda_nil))))) (pdss_one (pds_ret pd_bl)) pdss_nil)
      (pdss_cons (pds_for (vs := [2]) (passes_of rfl) rfl (pdi_range1 G.b_range (pda_cons pd_int pda_nil)) (pdg_name (i := 2) sc_law.nd) (pdss_cons (pds_set (i := 3) sc_law.nd (pd_call hcc F__law_gust (hr.mono (by decide)) tk0 (pda_cons (pd_var 1) pda_nil)))
      (pdss_cons (pds_par sc_law.nd (pda_cons (pd_call hcc F__law_draw (hr.mono (by decide)) tk0 (pda_cons (pd_var 1) (pda_cons pd_int pda_nil))) (pda_cons (pd_call hcc F__law_pick (hr.mono (by decide)) tk0 (pda_cons (pd_var 1) (pda_cons (pd_lst (pda_cons (pd_neg pd_int) (pda_cons pd_int (pda_cons pd_bl (pda_cons pd_bl (pda_cons pd_str (pda_cons (pd_tup (pda_cons pd_int pda_nil)) (pda_cons (pd_lst pda_nil) (pda_cons pd_int (pda_cons pd_int (pda_cons pd_non (pda_cons pd_int pda_nil)))))))))))) pda_nil))) pda_nil)) (ps_par (by rfl) sc_law.nd rfl rfl (by decide) rfl rfl (pda_cons (pd_call hcc F__law_draw (hr.mono (by decide)) tk0 (pda_cons (pd_var 1) (pda_cons pd_int pda_nil))) (pda_cons (pd_call hcc F__law_pick (hr.mono (by decide)) tk0 (pda_cons (pd_var 1) (pda_cons (pd_lst (pda_cons (pd_neg pd_int) (pda_cons pd_int (pda_cons pd_bl (pda_cons pd_bl (pda_cons pd_str (pda_cons (pd_tup (pda_cons pd_int pda_nil)) (pda_cons (pd_lst pda_nil) (pda_cons pd_int (pda_cons pd_int (pda_cons pd_non (pda_cons pd_int pda_nil)))))))))))) pda_nil))) pda_nil)) (by rfl)))
      (pdss_cons (pds_set (i := 6) sc_law.nd (pd_op opD_add (pd_op opD_add (pd_slice (pd_var 3) pdo_none (pdo_some (pd_var 4))) (pd_tup (pda_cons (pd_var 5) pda_nil))) (pd_slice (pd_var 3) (pdo_some (pd_op opD_add (pd_var 4) pd_int)) pdo_none)))
      (pdss_cons (pds_set (i := 7) sc_law.nd (pd_lst (pda_cons (pd_var 3) (pda_cons (pd_var 6) (pda_cons (pd_op opD_add (pd_slice (pd_var 3) pdo_none (pdo_some (pd_var 4))) (pd_slice (pd_var 3) (pdo_some (pd_op opD_add (pd_var 4) pd_int)) pdo_none)) (pda_cons (pd_op opD_add (pd_op opD_add (pd_slice (pd_var 3) pdo_none (pdo_some (pd_var 4))) (pd_tup (pda_cons pd_int pda_nil))) (pd_slice (pd_var 3) (pdo_some (pd_var 4)) pdo_none)) (pda_cons (pd_callTy lst_D rfl G.b_list (by decide +kernel) (pda_cons (pd_var 3) pda_nil)) (pda_cons (pd_tup (pda_cons (pd_var 3) pda_nil)) (pda_cons (pd_var 5) (pda_cons (pd_ix (pd_var 3) pd_int) pda_nil))))))))))
      (pdss_cons (pds_if (pdt_not (pdt_val (pd_call hcc F__law_same (hr.mono (by decide)) tk0 (pda_cons (pd_lc (own := [("_law_thing", 8)]) (us := [8]) rfl sc_law.nd (pdi_any (pd_var 7)) (blkOk_by (N := ["_law_script", "_law_bag_here", "_law_turn", "_law_gust_here", "_law_spot", "_law_odd", "_law_bent", "_law_some", "_law_thing", "_law_room", "_law_made", "_law_move", "_law_word", "_law_backs", "_law_bad"]) (sc := defScope s_law) (own := [("_law_thing", 8)]) (by decide +kernel)) (fun c1 sc1 _ _ _ _ _ => (pdg_name (i := 8) sc_law.nd)) (fun c1 sc1 _ _ _ _ _ => pdts_nil) (fun c1 sc1 _ _ _ _ _ => (pd_call (hcc.sc sc1) F_is_wind (hr.mono (by decide)) tk0 (pda_cons (pd_var 8) pda_nil)))) (pda_cons (pd_lc (own := [("_law_thing", 8)]) (us := [8]) rfl sc_law.nd (pdi_any (pd_var 7)) (blkOk_by (N := ["_law_script", "_law_bag_here", "_law_turn", "_law_gust_here", "_law_spot", "_law_odd", "_law_bent", "_law_some", "_law_thing", "_law_room", "_law_made", "_law_move", "_law_word", "_law_backs", "_law_bad"]) (sc := defScope s_law) (own := [("_law_thing", 8)]) (by decide +kernel)) (fun c1 sc1 _ _ _ _ _ => (pdg_name (i := 8) sc_law.nd)) (fun c1 sc1 _ _ _ _ _ => pdts_nil) (fun c1 sc1 _ _ _ _ _ => (pd_call (hcc.sc sc1) F__law_is_gust (hr.mono (by decide)) tk0 (pda_cons (pd_var 8) pda_nil)))) pda_nil))))) (pdss_one (pds_ret pd_bl)) pdss_nil)
      (pdss_cons (pds_set (i := 9) sc_law.nd (pd_tup (pda_cons (pd_call hcc F__law_draw (hr.mono (by decide)) tk0 (pda_cons (pd_var 1) (pda_cons pd_int pda_nil))) (pda_cons (pd_call hcc F__law_draw (hr.mono (by decide)) tk0 (pda_cons (pd_var 1) (pda_cons pd_int pda_nil))) pda_nil))))
      (pdss_cons (pds_setLc (i := 10) (own := [("_law_move", 11)]) (us := [11]) rfl sc_law.nd (pdi_any (pd_call0 hcc F__law_moves (hr.mono (by decide)) tk0)) (blkOk_by (N := ["_law_script", "_law_bag_here", "_law_turn", "_law_gust_here", "_law_spot", "_law_odd", "_law_bent", "_law_some", "_law_thing", "_law_room", "_law_made", "_law_move", "_law_word", "_law_backs", "_law_bad"]) (sc := defScope s_law) (own := [("_law_move", 11)]) (by decide +kernel)) (fun c1 sc1 _ _ _ _ _ => (pdg_name (i := 11) sc_law.nd)) (fun c1 sc1 _ _ _ _ _ => pdts_nil) (fun c1 sc1 _ _ _ _ _ => (pd_tup (pda_cons (pd_op opD_add (pd_ix (pd_var 9) pd_int) (pd_ix (pd_var 11) pd_int)) (pda_cons (pd_op opD_add (pd_ix (pd_var 9) pd_int) (pd_ix (pd_var 11) pd_int)) pda_nil)))) (sw_true rfl rfl rfl (by decide +kernel)))
      (pdss_cons (pds_if (pdt_not (pdt_val (pd_call hcc F__law_same (hr.mono (by decide)) tk0 (pda_cons (pd_lc (own := [("_law_word", 12)]) (us := [12]) rfl sc_law.nd (pdi_any (pd_call0 hcc F__law_words (hr.mono (by decide)) tk0)) (blkOk_by (N := ["_law_script", "_law_bag_here", "_law_turn", "_law_gust_here", "_law_spot", "_law_odd", "_law_bent", "_law_some", "_law_thing", "_law_room", "_law_made", "_law_move", "_law_word", "_law_backs", "_law_bad"]) (sc := defScope s_law) (own := [("_law_word", 12)]) (by decide +kernel)) (fun c1 sc1 _ _ _ _ _ => (pdg_name (i := 12) sc_law.nd)) (fun c1 sc1 _ _ _ _ _ => pdts_nil) (fun c1 sc1 _ _ _ _ _ => (pd_call (hcc.sc sc1) F_moved_cell (hr.mono (by decide)) tk0 (pda_cons (pd_var 9) (pda_cons (pd_var 12) pda_nil))))) (pda_cons (pd_var 10) pda_nil))))) (pdss_one (pds_ret pd_bl)) pdss_nil)
      (pdss_cons (pds_if (pdt_not (pdt_val (pd_call hcc F__law_same (hr.mono (by decide)) tk0 (pda_cons (pd_lc (own := [("_law_word", 12)]) (us := [12]) rfl sc_law.nd (pdi_any (pd_globC G.c_DIRECTIONS)) (blkOk_by (N := ["_law_script", "_law_bag_here", "_law_turn", "_law_gust_here", "_law_spot", "_law_odd", "_law_bent", "_law_some", "_law_thing", "_law_room", "_law_made", "_law_move", "_law_word", "_law_backs", "_law_bad"]) (sc := defScope s_law) (own := [("_law_word", 12)]) (by decide +kernel)) (fun c1 sc1 _ _ _ _ _ => (pdg_name (i := 12) sc_law.nd)) (fun c1 sc1 _ _ _ _ _ => pdts_nil) (fun c1 sc1 _ _ _ _ _ => (pd_callK0 (ks := ["direction", "cell"]) (m := 2) (hcc.sc sc1) Kw_moved_cell_direction_cell.g (fun R a b => Kw_moved_cell_direction_cell.rel R a b) (fun K w a b => Kw_moved_cell_direction_cell.relL K w a b) bk_Kw_moved_cell_direction_cell F_moved_cell (hr.mono (by decide)) tk0 (pdk_cons (pd_var 12) (pdk_cons (pd_var 9) pdk_nil))))) (pda_cons (pd_var 10) pda_nil))))) (pdss_one (pds_ret pd_bl)) pdss_nil)
      (pdss_cons (pds_set (i := 13) sc_law.nd (pd_lst (pda_cons (pd_call hcc F_moved_cell (hr.mono (by decide)) tk0 (pda_cons (pd_call hcc F_moved_cell (hr.mono (by decide)) tk0 (pda_cons (pd_var 9) (pda_cons pd_str pda_nil))) (pda_cons pd_str pda_nil))) (pda_cons (pd_call hcc F_moved_cell (hr.mono (by decide)) tk0 (pda_cons (pd_call hcc F_moved_cell (hr.mono (by decide)) tk0 (pda_cons (pd_var 9) (pda_cons pd_str pda_nil))) (pda_cons pd_str pda_nil))) pda_nil))))
      (pdss_cons (pds_if (pdt_not (pdt_val (pd_call hcc F__law_same (hr.mono (by decide)) tk0 (pda_cons (pd_var 13) (pda_cons (pd_lst (pda_cons (pd_var 9) (pda_cons (pd_var 9) pda_nil))) pda_nil))))) (pdss_one (pds_ret pd_bl)) pdss_nil)
      (pdss_cons (pds_set (i := 14) sc_law.nd (pd_call hcc F__law_pick (hr.mono (by decide)) tk0 (pda_cons (pd_var 1) (pda_cons (pd_lst (pda_cons pd_str (pda_cons pd_str (pda_cons pd_str (pda_cons pd_str (pda_cons pd_str (pda_cons pd_non (pda_cons pd_int (pda_cons pd_int (pda_cons pd_bl (pda_cons (pd_tup (pda_cons pd_str pda_nil)) (pda_cons (pd_lst (pda_cons pd_str pda_nil)) (pda_cons pd_str (pda_cons (pd_tup (pda_cons pd_int (pda_cons pd_int pda_nil))) pda_nil)))))))))))))) pda_nil))))
      (pdss_one (pds_if (pdt_not (pdt_val (pd_call hcc F__law_same (hr.mono (by decide)) tk0 (pda_cons (pd_lam (k := 6) (Ng := ["_law_ask", "_law_e"]) hcc htb hu F__law_try.1 F__law_try.2.1 F__law_try.2.2 sc__law_try (fun cdv2 s2 H2 f2 cg tl hcc2 hr2 act => dv__law_try G F__law_field f2 tl cdv2 s2 H2 cg hcc2 (hr2.mono (by decide)) act) (pure__law_try xnames) TB hcode (hr.mono (by decide)) (lamS_by (sc := defScope s_law) (by decide +kernel))
      (fun A2 o2 s2 H2 X2 f2 k2 cL E2 hcc2 tk2 hr2 => (pd_call hcc2 F_moved_cell (hr2.mono (by decide)) tk2 (pda_cons (pd_var 9) (pda_cons (pd_var 14) pda_nil))))) (pda_cons (pd_tup (pda_cons pd_str (pda_cons pd_str (pda_cons (pd_var 14) pda_nil)))) pda_nil))))) (pdss_one (pds_ret pd_bl)) pdss_nil)))))))))))))))
      (pdss_one (pds_ret pd_bl)))))
theorem ok_law (G : Gb P w K mg base cl) (F__law_bag : Fnd P w K mg base cl tb 1 "_law_bag" s__law_bag ["_law_script"] sp__law_bag) (F__law_draw : Fnd P w K mg base cl tb 1 "_law_draw" s__law_draw ["_law_bag_here", "_law_many"] sp__law_draw) (F__law_gust : Fnd P w K mg base cl tb 3 "_law_gust" s__law_gust ["_law_bag_here"] sp__law_gust) (F__law_is_gust : Fnd P w K mg base cl tb 1 "_law_is_gust" s__law_is_gust ["_law_thing"] sp__law_is_gust) (F__law_moves : Fnd P w K mg base cl tb 1 "_law_moves" s__law_moves [] sp__law_moves) (F__law_pick : Fnd P w K mg base cl tb 2 "_law_pick" s__law_pick ["_law_bag_here", "_law_some"] sp__law_pick) (F__law_same : Fnd P w K mg base cl tb 8 "_law_same" s__law_same ["_law_found", "_law_due"] sp__law_same) {g__law_try : Addr} {fd__law_try : FuncData} (F__law_try : FunD K "_law_try" "_law_try" (defArgs s__law_try) (defBody s__law_try) (defScope s__law_try) [] [] g__law_try fd__law_try ∧ mg "_law_try" = some (.ref g__law_try) ∧ L2.Binds K fd__law_try ["_law_ask"] []) (F__law_field : FndH P w K mg base cl 1 "_law_field" s__law_field ["_law_e"] (sp__law_field xnames)) (F__law_words : Fnd P w K mg base cl tb 1 "_law_words" s__law_words [] sp__law_words) (F_is_wind : Fnd P w K mg base cl tb 2 "is_wind" s_is_wind ["value"] sp_is_wind) (F_moved_cell : Fnd P w K mg base cl tb 3 "moved_cell" s_moved_cell ["cell", "direction"] sp_moved_cell) {Pt : Addr} (htb : (Pt, (PyProof.Rows.envOfC "law" (defScope s_law) 0 0 .none).qual ++ "<lambda>") ∈ tb) (hu : ∀ p ∈ tb, p.1 = Pt → p.2 = (PyProof.Rows.envOfC "law" (defScope s_law) 0 0 .none).qual ++ "<lambda>") (TB : TabB base mg (He.codeOf K ("law", none)) Pt) {fd : FuncData} (F : FunD K "law" "law" (defArgs s_law) (defBody s_law) (defScope s_law) [] [] (He.fAd K ("law", none)) fd) : FnOk P w K mg base (L2N.CX P w) 9 (He.fAd K ("law", none)) fd ["_law_script"] (upX K cl tb sp_law) :=
  fnXc (p := ("law", none)) F sc_law (t := fun _ => t_law xnames) (fun cdv A outer sh H E0 c E hcode hcc hr tk => dv_law G F__law_bag F__law_draw F__law_gust F__law_is_gust F__law_moves F__law_pick F__law_same F__law_try F__law_field F__law_words F_is_wind F_moved_cell htb hu TB cdv hcode A outer sh H E0 c hcc hr) pure_law
end
end K02
/-! The head and the end. Printed by a program of mine. -/
namespace K02
open PySem PySem.Spec PyProof.Rows L2 DL HS LamX
def d_is_number : He.DefD := ⟨("is_number", none), "is_number", "is_number", defArgs s_is_number, defBody s_is_number, defScope s_is_number, [], []⟩
def d_is_wind : He.DefD := ⟨("is_wind", none), "is_wind", "is_wind", defArgs s_is_wind, defBody s_is_wind, defScope s_is_wind, [], []⟩
def d_moved_cell : He.DefD := ⟨("moved_cell", none), "moved_cell", "moved_cell", defArgs s_moved_cell, defBody s_moved_cell, defScope s_moved_cell, [], []⟩
def d__law_bag : He.DefD := ⟨("_law_bag", none), "_law_bag", "_law_bag", defArgs s__law_bag, defBody s__law_bag, defScope s__law_bag, [], []⟩
def d__law_draw : He.DefD := ⟨("_law_draw", none), "_law_draw", "_law_draw", defArgs s__law_draw, defBody s__law_draw, defScope s__law_draw, [], []⟩
def d__law_pick : He.DefD := ⟨("_law_pick", none), "_law_pick", "_law_pick", defArgs s__law_pick, defBody s__law_pick, defScope s__law_pick, [], []⟩
def d__law_same : He.DefD := ⟨("_law_same", none), "_law_same", "_law_same", defArgs s__law_same, defBody s__law_same, defScope s__law_same, [], []⟩
def d__law_field : He.DefD := ⟨("_law_field", none), "_law_field", "_law_field", defArgs s__law_field, defBody s__law_field, defScope s__law_field, [], []⟩
def d__law_try : He.DefD := ⟨("_law_try", none), "_law_try", "_law_try", defArgs s__law_try, defBody s__law_try, defScope s__law_try, [], []⟩
def d__law_gust : He.DefD := ⟨("_law_gust", none), "_law_gust", "_law_gust", defArgs s__law_gust, defBody s__law_gust, defScope s__law_gust, [], []⟩
def d__law_moves : He.DefD := ⟨("_law_moves", none), "_law_moves", "_law_moves", defArgs s__law_moves, defBody s__law_moves, defScope s__law_moves, [], []⟩
def d__law_is_gust : He.DefD := ⟨("_law_is_gust", none), "_law_is_gust", "_law_is_gust", defArgs s__law_is_gust, defBody s__law_is_gust, defScope s__law_is_gust, [], []⟩
def d__law_words : He.DefD := ⟨("_law_words", none), "_law_words", "_law_words", defArgs s__law_words, defBody s__law_words, defScope s__law_words, [], []⟩
def d_law : He.DefD := ⟨("law", none), "law", "law", defArgs s_law, defBody s_law, defScope s_law, [], []⟩
def di_InvalidMirror : He.DefD := ⟨("InvalidMirror", some "__init__"), "__init__", "InvalidMirror.__init__", defArgs si_InvalidMirror, defBody si_InvalidMirror, defScope si_InvalidMirror, [], []⟩
def fnl : List He.DefD := [d_is_number, d_is_wind, d_moved_cell, d__law_bag, d__law_draw, d__law_pick, d__law_same, d__law_field, d__law_try, d__law_gust, d__law_moves, d__law_is_gust, d__law_words, d_law, di_InvalidMirror]
def fal : List He.Fa := [.glo "is_number", .glo "is_wind", .glo "moved_cell", .glo "_law_bag", .glo "_law_draw", .glo "_law_pick", .glo "_law_same", .glo "_law_field", .glo "_law_try", .glo "_law_gust", .glo "_law_moves", .glo "_law_is_gust", .glo "_law_words", .glo "law", .glo "InvalidMirror", .glo "SkyError", .glo "Missing", .glo "OFFSETS", .free "all", .free "bool", .free "int", .free "isinstance", .free "len", .free "list", .free "range", .free "str", .free "tuple", .free "zip"]
def tsl : List He.Tab := [(fun K => He.ga K "OFFSETS", kv_OFFSETS.map (·.1))]
def lml : List ((Str × Option Str) × Str) := [(("law", none), ((PyProof.Rows.envOfC "law" (defScope s_law) 0 0 .none).qual ++ "<lambda>"))]
def exl : PySem.W.Frag → List Bool := fun K => [gcB K "DIRECTIONS" (.tup [(.str "stay"), (.str "north"), (.str "east"), (.str "south"), (.str "west")]), gcB K "MOST_TOLL" (.int 99), ktB K (He.ga K "OFFSETS") kv_OFFSETS, oexB K (He.ga K "InvalidMirror"), iniB K (He.ga K "InvalidMirror"), noB K (He.ga K "InvalidMirror") ["code", "value"], (xnames.all fun n => decide (PySem.W.exmAny K (.ref (He.ga K n)) [.ref (He.ga K "SkyError"), .ref (He.ga K "Missing")] = some true)), (xnames.all fun n => xfB K (He.ga K n)), (xnames.all fun n => noB K (He.ga K n) xfields), decide ((lml.map fun p => (He.cT K p.1).2).Nodup)]
def exb : PySem.W.Frag → Bool := fun K => (exl K).all id
theorem exb_at {K : PySem.W.Frag} (h : exb K = true) (i : Nat) {b : Bool} (e : (exl K)[i]? = some b) : b = true := by
  have := List.all_eq_true.mp h b (List.mem_of_getElem? e)
  exact this
abbrev R : PySem.W.OpenRow := PySem.W.OpenLaw.row PySem.Challenge.rw_highestsky_k02_winds_and_directions
abbrev hk : PySem.W.Hook := He.hookX 4 fal fnl tsl (lml.map (·.1)) exb
def ob (s : PySem.W.SharedT) : He.AlX := He.obsX 4 fal fnl tsl (lml.map (·.1)) exb (HandSHeadRun.getT s)
theorem ob_eq (s : PySem.W.SharedT) : ob s = hk.obs s.abs := He.obsX_eq (HandSHeadRun.getT_eq s)
def loo : List Str := (["SkyError", "Missing", "InvalidMirror", "is_number", "DIRECTIONS", "OFFSETS", "MOST_TOLL", "is_wind", "moved_cell", "_law_bag", "_law_draw", "_law_pick", "_law_same", "_law_field", "_law_try", "_law_gust", "_law_moves", "_law_is_gust", "_law_words"] : List Str)
theorem run0 (b : Bool) (w : World) : HandSHeadRun.RunEq R (PySem.W.view R.prog [23]) hk ob 6000 loo (w.withFollow "special-get-raises" b) := by
  cases b <;> (intro os; kernel_rfl)
theorem run (w : World) : HandSHeadRun.RunEq R (PySem.W.view R.prog [23]) hk ob 6000 loo w := by
  have := run0 (w.params.followText "special-get-raises") w
  rwa [World.withFollow_self] at this
theorem law_sp : ∀ (ns : List Int) (M : Mu), ns.length ≤ 63 → M = (fun _ => none) → sp_law [.scr ns] M (fun d _ => d = .bl true) DX0 := fun ns M hl hM => ⟨ns, rfl, hl, hM, fun _ => rfl⟩
theorem facts {w : World} {K : PySem.W.Frag} {h : Heap} {mg : Str → Option Value} {f : Addr} (X : K.In h) (G : h.Ns mainGlobals mg) (hfa : mg ("law" : Str) = some (.ref f)) (c : He.SaysX fal fnl tsl (lml.map (·.1)) exb w h K) :
    LawAtS PySem.Challenge.rw_highestsky_k02_winds_and_directions w K (L2N.CX R.prog w) 9 63 "_law_script" mg f h := by
  have cd := c.t.d
  obtain ⟨fd0, f0⟩ := cd.def_ 0 (d := d_is_number) rfl
  have b0 := f0.bindsN (ps := ["value", "least", "most"]) bn_is_number
  have m0 := He.glo_ok X G (cd.fact 0 (f := .glo "is_number") rfl)
  obtain ⟨fd1, f1⟩ := cd.def_ 1 (d := d_is_wind) rfl
  have b1 := f1.bindsN (ps := ["value"]) bn_is_wind
  have m1 := He.glo_ok X G (cd.fact 1 (f := .glo "is_wind") rfl)
  obtain ⟨fd2, f2⟩ := cd.def_ 2 (d := d_moved_cell) rfl
  have b2 := f2.bindsN (ps := ["cell", "direction"]) bn_moved_cell
  have m2 := He.glo_ok X G (cd.fact 2 (f := .glo "moved_cell") rfl)
  obtain ⟨fd3, f3⟩ := cd.def_ 3 (d := d__law_bag) rfl
  have b3 := f3.bindsN (ps := ["_law_script"]) bn__law_bag
  have m3 := He.glo_ok X G (cd.fact 3 (f := .glo "_law_bag") rfl)
  obtain ⟨fd4, f4⟩ := cd.def_ 4 (d := d__law_draw) rfl
  have b4 := f4.bindsN (ps := ["_law_bag_here", "_law_many"]) bn__law_draw
  have m4 := He.glo_ok X G (cd.fact 4 (f := .glo "_law_draw") rfl)
  obtain ⟨fd5, f5⟩ := cd.def_ 5 (d := d__law_pick) rfl
  have b5 := f5.bindsN (ps := ["_law_bag_here", "_law_some"]) bn__law_pick
  have m5 := He.glo_ok X G (cd.fact 5 (f := .glo "_law_pick") rfl)
  obtain ⟨fd6, f6⟩ := cd.def_ 6 (d := d__law_same) rfl
  have b6 := f6.bindsN (ps := ["_law_found", "_law_due"]) bn__law_same
  have m6 := He.glo_ok X G (cd.fact 6 (f := .glo "_law_same") rfl)
  obtain ⟨fd7, f7⟩ := cd.def_ 7 (d := d__law_field) rfl
  have b7 := f7.bindsN (ps := ["_law_e"]) bn__law_field
  have m7 := He.glo_ok X G (cd.fact 7 (f := .glo "_law_field") rfl)
  obtain ⟨fd8, f8⟩ := cd.def_ 8 (d := d__law_try) rfl
  have b8 := f8.bindsN (ps := ["_law_ask"]) bn__law_try
  have m8 := He.glo_ok X G (cd.fact 8 (f := .glo "_law_try") rfl)
  obtain ⟨fd9, f9⟩ := cd.def_ 9 (d := d__law_gust) rfl
  have b9 := f9.bindsN (ps := ["_law_bag_here"]) bn__law_gust
  have m9 := He.glo_ok X G (cd.fact 9 (f := .glo "_law_gust") rfl)
  obtain ⟨fd10, f10⟩ := cd.def_ 10 (d := d__law_moves) rfl
  have b10 := f10.bindsN (ps := []) bn__law_moves
  have m10 := He.glo_ok X G (cd.fact 10 (f := .glo "_law_moves") rfl)
  obtain ⟨fd11, f11⟩ := cd.def_ 11 (d := d__law_is_gust) rfl
  have b11 := f11.bindsN (ps := ["_law_thing"]) bn__law_is_gust
  have m11 := He.glo_ok X G (cd.fact 11 (f := .glo "_law_is_gust") rfl)
  obtain ⟨fd12, f12⟩ := cd.def_ 12 (d := d__law_words) rfl
  have b12 := f12.bindsN (ps := []) bn__law_words
  have m12 := He.glo_ok X G (cd.fact 12 (f := .glo "_law_words") rfl)
  obtain ⟨fd13, f13⟩ := cd.def_ 13 (d := d_law) rfl
  obtain ⟨fi0, g0⟩ := cd.def_ 14 (d := di_InvalidMirror) rfl
  have bi0 := g0.bindsN (ps := ["self", "value"]) bni_InvalidMirror
  have e := hfa.symm.trans (He.glo_ok X G (cd.fact 13 (f := .glo "law") rfl))
  cases e
  have bL := FunD.bindsA (ps := ["_law_script"]) f13 bn_law
  have hnd := of_decide_eq_true (exb_at c.more 9 rfl)
  refine ⟨fd13, (lml.map (·.1)).map (He.cT K), upX K (fun n => He.ga K n) (lml.map fun p => ((He.cT K p.1).2, p.2)) sp_law, fun p hp => ?_, fun p hp => ?_, fun p hp => ?_, fun s v => bL s [v] rfl, fun H a ns hl _ hT hS => law_end2 law_sp H a ns hl (fun p hp => ?_) hS, fun base _ _ TB => ?_⟩
  · obtain ⟨q, hq, rfl⟩ := List.mem_map.mp hp; exact c.empty q hq
  · obtain ⟨q, hq, rfl⟩ := List.mem_map.mp hp; exact c.out q hq
  · obtain ⟨q, hq, rfl⟩ := List.mem_map.mp hp; exact PySem.W.codeHd_of_K X (c.hd q hq)
  · obtain ⟨q, hq, rfl⟩ := List.mem_map.mp hp; exact hT (He.cT K q.1) (List.mem_map.mpr ⟨q.1, List.mem_map.mpr ⟨q, hq, rfl⟩, rfl⟩)
  have GB : Gb R.prog w K mg base (fun n => He.ga K n) := ⟨He.free_ok X G (cd.fact 18 (f := .free "all") rfl),
    He.free_ok X G (cd.fact 19 (f := .free "bool") rfl),
    He.free_ok X G (cd.fact 20 (f := .free "int") rfl),
    He.free_ok X G (cd.fact 21 (f := .free "isinstance") rfl),
    He.free_ok X G (cd.fact 22 (f := .free "len") rfl),
    He.free_ok X G (cd.fact 23 (f := .free "list") rfl),
    He.free_ok X G (cd.fact 24 (f := .free "range") rfl),
    He.free_ok X G (cd.fact 25 (f := .free "str") rfl),
    He.free_ok X G (cd.fact 26 (f := .free "tuple") rfl),
    He.free_ok X G (cd.fact 27 (f := .free "zip") rfl),
    gcB_ok X G (exb_at c.more 0 rfl),
    gcB_ok X G (exb_at c.more 1 rfl),
    kt_ok (He.glo_ok X G (cd.fact 17 (f := .glo "OFFSETS") rfl)) (tab_at c.t 0 rfl) (exb_at c.more 2 rfl),
    ⟨oexB_ok (exb_at c.more 3 rfl), ⟨_, fi0, _, (iniB_ok (exb_at c.more 4 rfl)).1, (iniB_ok (exb_at c.more 4 rfl)).2, ini_InvalidMirror (oexB_ok (exb_at c.more 3 rfl)) (exb_at c.more 5 rfl) g0, bi0⟩, He.glo_ok X G (cd.fact 14 (f := .glo "InvalidMirror") rfl)⟩,
    He.glo_ok X G (cd.fact 15 (f := .glo "SkyError") rfl),
    He.glo_ok X G (cd.fact 16 (f := .glo "Missing") rfl),
    fun n hn => of_decide_eq_true (List.all_eq_true.mp (exb_at c.more 6 rfl) n hn),
    fun n hn => ⟨xfB_ok (List.all_eq_true.mp (exb_at c.more 7 rfl) n hn), List.all_eq_true.mp (exb_at c.more 8 rfl) n hn⟩⟩
  let tb := lml.map fun p => ((He.cT K p.1).2, p.2)
  have F_is_number : Fnd R.prog w K mg base (fun n => He.ga K n) tb 1 "is_number" s_is_number ["value", "least", "most"] sp_is_number := ⟨_, fd0, f0, ok_is_number GB f0, m0, b0⟩
  have F_is_wind : Fnd R.prog w K mg base (fun n => He.ga K n) tb 2 "is_wind" s_is_wind ["value"] sp_is_wind := ⟨_, fd1, f1, ok_is_wind GB F_is_number f1, m1, b1⟩
  have F_moved_cell : Fnd R.prog w K mg base (fun n => He.ga K n) tb 3 "moved_cell" s_moved_cell ["cell", "direction"] sp_moved_cell := ⟨_, fd2, f2, ok_moved_cell GB f2, m2, b2⟩
  have F__law_bag : Fnd R.prog w K mg base (fun n => He.ga K n) tb 1 "_law_bag" s__law_bag ["_law_script"] sp__law_bag := ⟨_, fd3, f3, ok__law_bag GB f3, m3, b3⟩
  have F__law_draw : Fnd R.prog w K mg base (fun n => He.ga K n) tb 1 "_law_draw" s__law_draw ["_law_bag_here", "_law_many"] sp__law_draw := ⟨_, fd4, f4, draw_ok (ok__law_draw GB f4), m4, b4⟩
  have F__law_pick : Fnd R.prog w K mg base (fun n => He.ga K n) tb 2 "_law_pick" s__law_pick ["_law_bag_here", "_law_some"] sp__law_pick := ⟨_, fd5, f5, ok__law_pick GB F__law_draw f5, m5, b5⟩
  have F__law_same : Fnd R.prog w K mg base (fun n => He.ga K n) tb 8 "_law_same" s__law_same ["_law_found", "_law_due"] sp__law_same := same_ok GB f6 m6 b6 6
  have F__law_field : FndH R.prog w K mg base (fun n => He.ga K n) 1 "_law_field" s__law_field ["_law_e"] (sp__law_field xnames) := ⟨_, fd7, f7, ok__law_field GB f7, m7, b7⟩
  have F__law_try := And.intro f8 (And.intro m8 b8)
  have F__law_gust : Fnd R.prog w K mg base (fun n => He.ga K n) tb 3 "_law_gust" s__law_gust ["_law_bag_here"] sp__law_gust := ⟨_, fd9, f9, ok__law_gust GB F__law_draw F__law_pick f9, m9, b9⟩
  have F__law_moves : Fnd R.prog w K mg base (fun n => He.ga K n) tb 1 "_law_moves" s__law_moves [] sp__law_moves := ⟨_, fd10, f10, ok__law_moves GB f10, m10, b10⟩
  have F__law_is_gust : Fnd R.prog w K mg base (fun n => He.ga K n) tb 1 "_law_is_gust" s__law_is_gust ["_law_thing"] sp__law_is_gust := ⟨_, fd11, f11, ok__law_is_gust GB f11, m11, b11⟩
  have F__law_words : Fnd R.prog w K mg base (fun n => He.ga K n) tb 1 "_law_words" s__law_words [] sp__law_words := ⟨_, fd12, f12, ok__law_words GB f12, m12, b12⟩
  have lm0 := tb_one hnd (p := (("law", none), ((PyProof.Rows.envOfC "law" (defScope s_law) 0 0 .none).qual ++ "<lambda>"))) (by exact List.mem_of_getElem? (i := 0) rfl)
  have TB0 := TB (He.cT K ("law", none)) (List.mem_map.mpr ⟨("law", none), List.mem_of_getElem? (i := 0) rfl, rfl⟩)
  exact ok_law GB F__law_bag F__law_draw F__law_gust F__law_is_gust F__law_moves F__law_pick F__law_same F__law_try F__law_field F__law_words F_is_wind F_moved_cell lm0.1 lm0.2 TB0 f13
end K02
open PySem PySem.W PySem.Calls PyProof.Rows
theorem PySem.Challenge.cw_highestsky_k02_winds_and_directions_holds : PySem.Challenge.rw_highestsky_k02_winds_and_directions.Holds := by
  w_on; o_law
  refine HandSHeadRun.head_any (r := OpenLaw.row PySem.Challenge.rw_highestsky_k02_winds_and_directions) (q := view (OpenLaw.row PySem.Challenge.rw_highestsky_k02_winds_and_directions).prog [23]) (H := K02.hk) (ob := K02.ob) (M := 6000) (loose := K02.loo) (d := HandSHeadRun.topDef (OpenLaw.row PySem.Challenge.rw_highestsky_k02_winds_and_directions).prog 23) (kwd := []) K02.ob_eq
    (by kernel_rfl) (fun s => by kernel_rfl) K02.run (by kernel_rfl) (by kernel_rfl) (by kernel_rfl) (by rfl) (by first | assumption | decide +kernel) (by decide +kernel) ⟨rfl, rfl, rfl, rfl, rfl, by decide +kernel⟩ ?hw ?hc
  case hw => w_witness2
  case hc =>
    refine LamX.walk_ofTsE (l := PySem.Challenge.rw_highestsky_k02_winds_and_directions) (n := 63) (k := 9) (x := "_law_script") (CX := fun w => L2N.CX (PySem.Challenge.rw_highestsky_k02_winds_and_directions).prog w) rfl (by decide) (by kernel_rfl) ⟨rfl, by decide, by decide⟩ ?F (fun w H s e s' z => DL.cx_end _ w H s e s' z)
    intro w mg fa h Y G hmg0
    obtain ⟨K, KX, c⟩ := Y
    have hmg : mg ("law" : PySem.Str) = some (.ref fa) := by
      have e : (HandSHeadRun.topDef (OpenLaw.row PySem.Challenge.rw_highestsky_k02_winds_and_directions).prog 23).name = ("law" : PySem.Str) := by kernel_rfl
      rw [← e]
      exact hmg0
    exact ⟨K, KX, K02.facts KX G hmg c⟩
