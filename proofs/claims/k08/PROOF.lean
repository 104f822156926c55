import PyProof.Rows.All
import Wide.All
import OpenK.AllK
import Wide.FinOn
import HandS.ForMost
import HandS.Exc
import HandS.WordsExc
import HandS.IsInst
import HandS.Flow
import HandS.Lambda
import HandS.TupAny
import HandS.Zip
import HandS.Defaults
import HandS.Replace
import HandS.ExcCtx
import HandS.ExcInit
import HandS.ExcField
import HandS.HotCalls
import HandS.StrMore
import HandS.HeadHook4
import HandS.WrittenGet
import HandS.ExcIs
import HandS.HeadWalk
import HandS.Head0
import HandS.Head1
import HandS.Head2
import HandS.HeadEnd
import HandS.HeadHook1
import HandS.HeadHook2
import HandS.Star
import HandS.ClsMeth
import HandS.MakeKwOnly
import HandS.Small
import HandS.FStr
import HandS.Style
import HandS.TupMul
import KE.KUnpackStar
import HandS.RaiseMore
import HandS.SlotsOwn
import HandS.OwnEq
import HandS.HeadNt
import KE.GoesMore
import HandS.SetFor
import HandS.Codes
import PySem.Challenge.RW_highestsky_k08_chart_texts_refused_by_ha
set_option Elab.async false
set_option linter.all false
set_option maxRecDepth 100000
set_option maxHeartbeats 0
/-! The data layer, part a: data without addresses, an owned store, and readings over both. -/
namespace DL
open PySem L2

inductive D where
  | non | bl (b : Bool) | int (i : Int) | str (s : Str)
  | lst (r : Nat) (xs : List D) | tup (xs : List D)
  | dct (kvs : List (D × D))
  | obj (n : Str) (fs : List (Str × D))
  | ref (a : Addr) | ty (n : String)
  | scr (ns : List Int)
  | exc (n : Str) (fs : List (Str × D))
  | cls (n : Str)

/-- what is owned (may still be changed) -/
inductive MO where
  | lst (xs : List D)
  | bag
  | dK (kvs : List (Key × D))
  | dT (kvs : List (List Key × D))
  | ins (n : Str) (fs : List (Str × D))
abbrev Mu := Addr → Option MO
/-- a world: what is hidden (it stands as it is), what is lent (by regions), the exception that is handled (its address, class, dict), the classes by their names, the tables of code objects, what is owned, the heap -/
structure Wd where
  hd : Hp
  ln : Nat → Hp
  ex : Option (Addr × Addr × Addr)
  cl : Str → Addr
  tb : List (Addr × Str)
  M : Mu
  H : Hp
structure Fr (w : Wd) (a : Addr) : Prop where
  m : w.M a = none
  h : w.hd a = none
  l : ∀ r, w.ln r a = none
def keyD : Key → D
  | .inl i => .int i
  | .inr x => .str x
def tkeyD (ks : List Key) : D := .tup (ks.map keyD)

/-- a list, a tuple that is not owned -/
def LsAt (w : Wd) (r : Nat) (a : Addr) (xs : List V) : Prop := w.H a = some (.lst xs) ∧ ((r = 0 ∧ Fr w a) ∨ (r ≠ 0 ∧ w.ln r a = some (.lst xs)))
def TuAt (K : PySem.W.Frag) (w : Wd) (a : Addr) (xs : List V) : Prop := (Fr w a ∧ w.H a = some (.tup xs)) ∨ ∀ H', SqT K H' a xs
/-- the script: a list that is read alone -/
def ScAt (K : PySem.W.Frag) (w : Wd) (a : Addr) (xs : List V) : Prop := (Fr w a ∧ Rd w.H a (.lst xs)) ∨ ∀ H', SqL K H' a xs
/-- a dict, locked or not -/
def unl : HO → HO
  | .frz _ (.dK k) => .dK k
  | .frz _ (.dT k) => .dT k
  | u => u
theorem unl_lst {u : HO} {xs : List V} (h : unl u = .lst xs) : u = .lst xs := by
  unfold unl at h
  split at h <;> first | exact h | cases h
theorem unl_frz {u : HO} {o : Obj} {xs : List V} (h : unl u = .frz o (.lst xs)) : u = .frz o (.lst xs) := by
  unfold unl at h
  split at h <;> first | exact h | cases h
theorem unl_tup {u : HO} {xs : List V} (h : unl u = .tup xs) : u = .tup xs := by
  unfold unl at h
  split at h <;> first | exact h | cases h
theorem unl_xd {u : HO} {xs : List (Str × V)} (h : unl u = .xd xs) : u = .xd xs := by
  unfold unl at h
  split at h <;> first | exact h | cases h
theorem unl_ins {u : HO} {C dx : Addr} {xs : List (Str × V)} (h : unl u = .ins C dx xs) : u = .ins C dx xs := by
  unfold unl at h
  split at h <;> first | exact h | cases h
/-- at a stands this, locked or not -/
def Sd (H : Hp) (a : Addr) (u : HO) : Prop := ∃ u', H a = some u' ∧ unl u' = u

/-! data that stands in the heap, in nothing that is owned -/
mutual
def Rp (K : PySem.W.Frag) (w : Wd) : D → V → Prop
  | .non, v => v = .non
  | .bl b, v => v = .bl b
  | .int i, v => v = .int i
  | .str x, v => v = .str x
  | .ref a, v => v = .ref a
  | .ty n, v => v = .ty n
  | .scr ns, v => ∃ a, v = .ref a ∧ ScAt K w a (ns.map V.int)
  | .lst r ds, v => ∃ a xs, v = .ref a ∧ LsAt w r a xs ∧ RpL K w ds xs
  | .tup ds, v => ∃ a xs, v = .ref a ∧ TuAt K w a xs ∧ RpL K w ds xs
  | .dct kvs, v => ∃ a, v = .ref a ∧ Fr w a ∧ ((∃ ks, Sd w.H a (.dK ks) ∧ RpK K w kvs (ks.map fun p => (keyD p.1, p.2))) ∨ (∃ ks, Sd w.H a (.dT ks) ∧ RpK K w kvs (ks.map fun p => (tkeyD p.1, p.2))))
  | .cls n, v => v = .ref (w.cl n)
  | .obj n fs, v => ∃ a dx vs, v = .ref a ∧ Fr w a ∧ w.H a = some (.ins (w.cl n) dx vs) ∧ RpF K w fs vs
  | .exc n fs, v => ∃ a dd vs, v = .ref a ∧ w.ex = some (a, w.cl n, dd) ∧ Fr w dd ∧ w.H dd = some (.xd vs) ∧ RpF K w fs vs
def RpL (K : PySem.W.Frag) (w : Wd) : List D → List V → Prop
  | [], vs => vs = []
  | d :: ds, vs => ∃ x r, vs = x :: r ∧ Rp K w d x ∧ RpL K w ds r
def RpK (K : PySem.W.Frag) (w : Wd) : List (D × D) → List (D × V) → Prop
  | [], vs => vs = []
  | (k, d) :: ds, vs => ∃ x r, vs = (k, x) :: r ∧ Rp K w d x ∧ RpK K w ds r
def RpF (K : PySem.W.Frag) (w : Wd) : List (Str × D) → List (Str × V) → Prop
  | [], vs => vs = []
  | (k, d) :: ds, vs => ∃ x r, vs = (k, x) :: r ∧ Rp K w d x ∧ RpF K w ds r
end
/-- what is free stands as it stood (but for a dict's lock), and is free; what is lent stays so -/
structure Kp (w w' : Wd) : Prop where
  fr : ∀ a u, Fr w a → w.H a = some u → (∀ ps, u ≠ .tbl ps) → Fr w' a ∧ Sd w'.H a (unl u)
  ln : ∀ r a u, w.ln r a = some u → w'.ln r a = some u ∧ (w.H a = some u → w'.H a = some u)
  ex : w'.ex = w.ex
  cl : w'.cl = w.cl
  tb : w'.tb = w.tb
theorem unl_tbl {u : HO} {ps : Array Value} (h : unl u = .tbl ps) : u = .tbl ps := by
  unfold unl at h
  split at h <;> first | exact h | cases h
theorem Kp.refl (w : Wd) : Kp w w := ⟨fun _ u h r _ => ⟨h, u, r, rfl⟩, fun _ _ _ h => ⟨h, id⟩, rfl, rfl, rfl⟩
theorem Kp.trans {w w1 w2 : Wd} (a : Kp w w1) (b : Kp w1 w2) : Kp w w2 := ⟨fun x u h r nt => by
  obtain ⟨h1, u1, r1, e1⟩ := a.fr x u h r nt
  obtain ⟨h2, u2, r2, e2⟩ := b.fr x u1 h1 r1 (fun ps z => by subst z; exact nt ps (unl_tbl e1.symm))
  exact ⟨h2, u2, r2, e2.trans e1⟩, fun r x u h => ⟨(b.ln r x u (a.ln r x u h).1).1, fun q => (b.ln r x u (a.ln r x u h).1).2 ((a.ln r x u h).2 q)⟩, b.ex.trans a.ex, b.cl.trans a.cl, b.tb.trans a.tb⟩
/-- all that is tracked and free stays; the lent ones, too -/
theorem Kp.of {w w' : Wd} (h : ∀ a u, Fr w a → w.H a = some u → (∀ ps, u ≠ .tbl ps) → Fr w' a ∧ w'.H a = some u) (l : ∀ r a u, w.ln r a = some u → w'.ln r a = some u ∧ (w.H a = some u → w'.H a = some u)) (e : w'.ex = w.ex) (c : w'.cl = w.cl) (t : w'.tb = w.tb) : Kp w w' := ⟨fun a u hm e n => ⟨(h a u hm e n).1, u, (h a u hm e n).2, rfl⟩, l, e, c, t⟩
section
variable {w w' : Wd} {a C dx : Addr} {r : Nat}
theorem Kp.lst {xs : List V} (k : Kp w w') (h : LsAt w r a xs) : LsAt w' r a xs := by
  obtain ⟨hH, ⟨h0, hf⟩ | ⟨h0, hl⟩⟩ := h
  · obtain ⟨h1, u, e, q⟩ := k.fr a _ hf hH (fun _ z => nomatch z)
    exact ⟨by rw [e, unl_lst q], .inl ⟨h0, h1⟩⟩
  · obtain ⟨h1, h2⟩ := k.ln r a _ hl
    exact ⟨h2 hH, .inr ⟨h0, h1⟩⟩
theorem Kp.tup {K : PySem.W.Frag} {xs : List V} (k : Kp w w') (h : TuAt K w a xs) : TuAt K w' a xs := by
  rcases h with h | h
  · obtain ⟨h1, u, e, q⟩ := k.fr a _ h.1 h.2 (fun _ z => nomatch z)
    exact .inl ⟨h1, by rw [e, unl_tup q]⟩
  · exact .inr h
theorem Kp.scr {K : PySem.W.Frag} {xs : List V} (k : Kp w w') (h : ScAt K w a xs) : ScAt K w' a xs := by
  rcases h with ⟨h0, h | ⟨o, h⟩⟩ | h
  · obtain ⟨h1, u, e, q⟩ := k.fr a _ h0 h (fun _ z => nomatch z)
    exact .inl ⟨h1, .inl (by rw [e, unl_lst q])⟩
  · obtain ⟨h1, u, e, q⟩ := k.fr a _ h0 h (fun _ z => nomatch z)
    exact .inl ⟨h1, .inr ⟨o, by rw [e, unl_frz q]⟩⟩
  · exact .inr h
theorem Kp.sd {u : HO} (k : Kp w w') (hm : Fr w a) (h : Sd w.H a u) (nt : ∀ ps, u ≠ .tbl ps) : Fr w' a ∧ Sd w'.H a u := by
  obtain ⟨u1, e, rfl⟩ := h
  obtain ⟨h1, u2, e2, q⟩ := k.fr a _ hm e (fun ps z => nt ps (by rw [z]; rfl))
  exact ⟨h1, u2, e2, q⟩
theorem Kp.ins {xs : List (Str × V)} (k : Kp w w') (hm : Fr w a) (h : w.H a = some (.ins C dx xs)) : Fr w' a ∧ w'.H a = some (.ins C dx xs) := by
  obtain ⟨h1, u2, e2, q⟩ := k.fr a _ hm h (fun _ z => nomatch z)
  exact ⟨h1, by rw [e2, unl_ins q]⟩
theorem Kp.xd {xs : List (Str × V)} (k : Kp w w') (hm : Fr w a) (h : w.H a = some (.xd xs)) : Fr w' a ∧ w'.H a = some (.xd xs) := by
  obtain ⟨h1, u2, e2, q⟩ := k.fr a _ hm h (fun _ z => nomatch z)
  exact ⟨h1, by rw [e2, unl_xd q]⟩
end
/-- the heap alone, otherwise -/
abbrev Wd.at (w : Wd) (H : Hp) : Wd := { w with H := H }
theorem Fr.at {w : Wd} {a : Addr} {H : Hp} (h : Fr w a) : Fr (w.at H) a := ⟨h.m, h.h, h.l⟩
/-- more in the heap -/
theorem Kp.ex' {w : Wd} {H' : Hp} (h : ∀ a u, w.H a = some u → H' a = some u) : Kp w (w.at H') := Kp.of (fun a u hm e _ => ⟨hm.at, h a u e⟩) (fun _ a u e => ⟨e, h a u⟩) rfl rfl rfl
/-- a new object that is free -/
theorem Kp.new {w : Wd} {p : Addr} {o : HO} (h : w.H p = none) : Kp w (w.at (upd w.H p o)) := Kp.ex' fun a u e => by rw [upd_ne (ne_of_none e h)]; exact e

mutual
theorem Rp.mono {K : PySem.W.Frag} {w w' : Wd} (k : Kp w w') : ∀ {d : D} {v : V}, Rp K w d v → Rp K w' d v
  | .non, _, h => h
  | .bl _, _, h => h
  | .int _, _, h => h
  | .str _, _, h => h
  | .ref _, _, h => h
  | .ty _, _, h => h
  | .scr ns, v, h => by
    obtain ⟨a, rfl, h1⟩ := h
    exact ⟨a, rfl, k.scr h1⟩
  | .lst _ ds, v, h => by
    obtain ⟨a, xs, rfl, hl, hr⟩ := h
    exact ⟨a, xs, rfl, k.lst hl, RpL.mono k hr⟩
  | .exc C fs, v, h => by
    obtain ⟨a, dd, vs, rfl, he, hm, h1, h2⟩ := h
    exact ⟨a, dd, vs, rfl, by rw [k.ex, k.cl]; exact he, (k.xd hm h1).1, (k.xd hm h1).2, RpF.mono k h2⟩
  | .tup ds, v, h => by
    obtain ⟨a, xs, rfl, hl, hr⟩ := h
    exact ⟨a, xs, rfl, k.tup hl, RpL.mono k hr⟩
  | .dct kvs, v, h => by
    obtain ⟨a, rfl, hm, hl⟩ := h
    rcases hl with ⟨ks, h1, h2⟩ | ⟨ks, h1, h2⟩
    · exact ⟨a, rfl, (k.sd hm h1 (fun _ z => by cases z)).1, .inl ⟨ks, (k.sd hm h1 (fun _ z => by cases z)).2, RpK.mono k h2⟩⟩
    · exact ⟨a, rfl, (k.sd hm h1 (fun _ z => by cases z)).1, .inr ⟨ks, (k.sd hm h1 (fun _ z => by cases z)).2, RpK.mono k h2⟩⟩
  | .cls n, v, h => by
    show v = .ref (w'.cl n)
    rw [k.cl]; exact h
  | .obj C fs, v, h => by
    obtain ⟨a, dx, vs, rfl, hm, h1, h2⟩ := h
    exact ⟨a, dx, vs, rfl, (k.ins hm h1).1, by rw [k.cl]; exact (k.ins hm h1).2, RpF.mono k h2⟩
theorem RpL.mono {K : PySem.W.Frag} {w w' : Wd} (k : Kp w w') : ∀ {ds : List D} {vs : List V}, RpL K w ds vs → RpL K w' ds vs
  | [], _, h => h
  | d :: ds, vs, h => by
    obtain ⟨x, r, rfl, h1, h2⟩ := h
    exact ⟨x, r, rfl, Rp.mono k h1, RpL.mono k h2⟩
theorem RpK.mono {K : PySem.W.Frag} {w w' : Wd} (k : Kp w w') : ∀ {ds : List (D × D)} {vs : List (D × V)}, RpK K w ds vs → RpK K w' ds vs
  | [], _, h => h
  | (q, d) :: ds, vs, h => by
    obtain ⟨x, r, rfl, h1, h2⟩ := h
    exact ⟨x, r, rfl, Rp.mono k h1, RpK.mono k h2⟩
theorem RpF.mono {K : PySem.W.Frag} {w w' : Wd} (k : Kp w w') : ∀ {ds : List (Str × D)} {vs : List (Str × V)}, RpF K w ds vs → RpF K w' ds vs
  | [], _, h => h
  | (q, d) :: ds, vs, h => by
    obtain ⟨x, r, rfl, h1, h2⟩ := h
    exact ⟨x, r, rfl, Rp.mono k h1, RpF.mono k h2⟩
end
section
variable {K : PySem.W.Frag} {w w' : Wd}
theorem RpL.length : ∀ {ds : List D} {vs : List V}, RpL K w ds vs → vs.length = ds.length
  | [], vs, h => by obtain rfl : vs = [] := h; rfl
  | d :: ds, vs, h => by
    obtain ⟨x, r, rfl, _, h2⟩ := h
    rw [List.length_cons, List.length_cons, RpL.length h2]
theorem RpL.get : ∀ {ds : List D} {vs : List V} {i : Nat} {v : V}, RpL K w ds vs → vs[i]? = some v → ∃ d, ds[i]? = some d ∧ Rp K w d v
  | [], vs, i, v, h, e => by obtain rfl : vs = [] := h; simp at e
  | d :: ds, vs, 0, v, h, e => by
    obtain ⟨x, r, rfl, h1, _⟩ := h
    obtain rfl : x = v := by simpa using e
    exact ⟨d, rfl, h1⟩
  | d :: ds, vs, i + 1, v, h, e => by
    obtain ⟨x, r, rfl, _, h2⟩ := h
    exact RpL.get (i := i) h2 (by simpa using e)
theorem RpL.at : ∀ {ds : List D} {vs : List V} {i : Nat} {d : D}, RpL K w ds vs → ds[i]? = some d → ∃ v, vs[i]? = some v ∧ Rp K w d v
  | [], vs, i, d, h, e => by simp at e
  | d :: ds, vs, 0, d', h, e => by
    obtain ⟨x, r, rfl, h1, _⟩ := h
    obtain rfl : d = d' := by simpa using e
    exact ⟨x, rfl, h1⟩
  | d :: ds, vs, i + 1, d', h, e => by
    obtain ⟨x, r, rfl, _, h2⟩ := h
    exact RpL.at (i := i) h2 (by simpa using e)
theorem RpL.append : ∀ {ds es : List D} {vs ws : List V}, RpL K w ds vs → RpL K w es ws → RpL K w (ds ++ es) (vs ++ ws)
  | [], es, vs, ws, h, g => by obtain rfl : vs = [] := h; exact g
  | d :: ds, es, vs, ws, h, g => by
    obtain ⟨x, r, rfl, h1, h2⟩ := h
    exact ⟨x, r ++ ws, rfl, h1, RpL.append h2 g⟩
theorem RpL.take : ∀ {ds : List D} {vs : List V} (n : Nat), RpL K w ds vs → RpL K w (ds.take n) (vs.take n)
  | ds, vs, 0, h => by rw [List.take_zero, List.take_zero]; rfl
  | [], vs, n + 1, h => by obtain rfl : vs = [] := h; exact rfl
  | d :: ds, vs, n + 1, h => by
    obtain ⟨x, r, rfl, h1, h2⟩ := h
    exact ⟨x, r.take n, rfl, h1, RpL.take n h2⟩
theorem RpL.drop : ∀ {ds : List D} {vs : List V} (n : Nat), RpL K w ds vs → RpL K w (ds.drop n) (vs.drop n)
  | ds, vs, 0, h => h
  | [], vs, n + 1, h => by obtain rfl : vs = [] := h; exact rfl
  | d :: ds, vs, n + 1, h => by
    obtain ⟨x, r, rfl, h1, h2⟩ := h
    exact RpL.drop n h2
theorem RpL.one {d : D} {v : V} (h : Rp K w d v) : RpL K w [d] [v] := ⟨v, [], rfl, h, rfl⟩
theorem LsAt.sq {r : Nat} {a : Addr} {xs : List V} (h : LsAt w r a xs) : SqL K w.H a xs := .inl (.inl h.1)
theorem TuAt.sq {a : Addr} {xs : List V} (h : TuAt K w a xs) : SqT K w.H a xs := h.elim (fun z => .inl (.inl z.2)) fun z => z w.H
theorem LsAt.mono {r : Nat} {a : Addr} {xs : List V} (k : Kp w w') (h : LsAt w r a xs) : LsAt w' r a xs := k.lst h
theorem LsAt.free {a : Addr} {xs : List V} (h : Fr w a) (e : w.H a = some (.lst xs)) : LsAt w 0 a xs := ⟨e, .inl ⟨rfl, h⟩⟩
theorem TuAt.mono {a : Addr} {xs : List V} (k : Kp w w') (h : TuAt K w a xs) : TuAt K w' a xs := k.tup h
end

/-! ### the owned store -/
/-- a law's bag: the cells, how many were taken, the rest of a great cell, a mixed number -/
def BagAt (w : Wd) (a : Addr) : Prop := ∃ (c : Addr) (cs : List Int) (i r m : Int), w.H a = some (.lst [.ref c, .int i, .int r, .int m]) ∧ LsAt w 0 c (cs.map V.int) ∧ cs.length ≤ 63 ∧ 0 ≤ i
/-- all but a table stands -/
def MOk (K : PySem.W.Frag) (w : Wd) (a : Addr) : MO → Prop
  | .lst ds => ∃ xs, w.H a = some (.lst xs) ∧ RpL K w ds xs
  | .bag => BagAt w a
  | .dK kvs => ∃ ks, w.H a = some (.dK ks) ∧ RpK K w (kvs.map fun p => (keyD p.1, p.2)) (ks.map fun p => (keyD p.1, p.2)) ∧ ks.map (·.1) = kvs.map (·.1)
  | .dT kvs => ∃ ks, w.H a = some (.dT ks) ∧ RpK K w (kvs.map fun p => (tkeyD p.1, p.2)) (ks.map fun p => (tkeyD p.1, p.2)) ∧ ks.map (·.1) = kvs.map (·.1)
  | .ins n fs => ∃ dx vs, w.H a = some (.ins (w.cl n) dx vs) ∧ RpF K w fs vs
structure Ok (K : PySem.W.Frag) (w : Wd) : Prop where
  mo : ∀ a m, w.M a = some m → MOk K w a m
  hid : ∀ a u, w.hd a = some u → w.H a = some u
  ap : ∀ a m, w.M a = some m → w.hd a = none
  len : ∀ r a u, w.ln r a = some u → w.H a = some u
  lap : ∀ r a u, w.ln r a = some u → w.M a = none ∧ w.hd a = none
  lfr : ∃ n, ∀ r, n ≤ r → ∀ a, w.ln r a = none
  hl : ∀ a u, w.hd a = some u → ∃ xs, u = .lst xs
  ll : ∀ r a u, w.ln r a = some u → ∃ xs, u = .lst xs
  tabs : LamX.Tabs w.tb w.H
theorem unl_ext {u : HO} {φ : Heap → Prop} (h : unl u = .ext φ) : u = .ext φ := by
  unfold unl at h
  split at h <;> first | exact h | cases h
theorem MOk.mono {K : PySem.W.Frag} {w w' : Wd} {a : Addr} {m : MO} (k : Kp w w') (e : w'.H a = w.H a) (h : MOk K w a m) : MOk K w' a m := by
  cases m with
  | lst ds => obtain ⟨xs, h1, h2⟩ := h; exact ⟨xs, e.trans h1, RpL.mono k h2⟩
  | bag => obtain ⟨c, cs, i, r, m, h1, h2, h3⟩ := h; exact ⟨c, cs, i, r, m, e.trans h1, h2.mono k, h3⟩
  | dK kvs => obtain ⟨xs, h1, h2, h3⟩ := h; exact ⟨xs, e.trans h1, RpK.mono k h2, h3⟩
  | dT kvs => obtain ⟨xs, h1, h2, h3⟩ := h; exact ⟨xs, e.trans h1, RpK.mono k h2, h3⟩
  | ins C fs => obtain ⟨dx, vs, h1, h2⟩ := h; exact ⟨dx, vs, by rw [k.cl]; exact e.trans h1, RpF.mono k h2⟩
theorem Ok.tracked {K : PySem.W.Frag} {w : Wd} {a : Addr} {m : MO} (o : Ok K w) (h : w.M a = some m) : ∃ u, w.H a = some u := by
  have z := o.mo a m h
  cases m with
  | lst ds => obtain ⟨xs, h1, _⟩ := z; exact ⟨_, h1⟩
  | bag => obtain ⟨_, _, _, _, _, h1, _⟩ := z; exact ⟨_, h1⟩
  | dK kvs => obtain ⟨_, h1, _⟩ := z; exact ⟨_, h1⟩
  | dT kvs => obtain ⟨_, h1, _⟩ := z; exact ⟨_, h1⟩
  | ins C fs => obtain ⟨_, _, h1, _⟩ := z; exact ⟨_, h1⟩
/-- what is owned is no table, no code object -/
theorem Ok.plain {K : PySem.W.Frag} {w : Wd} {a : Addr} {m : MO} (o : Ok K w) (h : w.M a = some m) : ∃ u, w.H a = some u ∧ (∀ ps, u ≠ .tbl ps) ∧ ∀ φ, u ≠ .ext φ := by
  have z := o.mo a m h
  cases m with
  | lst ds => obtain ⟨xs, h1, _⟩ := z; exact ⟨_, h1, ⟨fun _ z => (by cases z), fun _ z => (by cases z)⟩⟩
  | bag => obtain ⟨_, _, _, _, _, h1, _⟩ := z; exact ⟨_, h1, ⟨fun _ z => (by cases z), fun _ z => (by cases z)⟩⟩
  | dK kvs => obtain ⟨_, h1, _⟩ := z; exact ⟨_, h1, ⟨fun _ z => (by cases z), fun _ z => (by cases z)⟩⟩
  | dT kvs => obtain ⟨_, h1, _⟩ := z; exact ⟨_, h1, ⟨fun _ z => (by cases z), fun _ z => (by cases z)⟩⟩
  | ins C fs => obtain ⟨_, _, h1, _⟩ := z; exact ⟨_, h1, ⟨fun _ z => (by cases z), fun _ z => (by cases z)⟩⟩
theorem tabs_upd {T : List (Addr × Str)} {H : Hp} {a : Addr} {u u' : HO} (t : LamX.Tabs T H) (e : H a = some u) (h1 : ∀ ps, u ≠ .tbl ps) (h2 : ∀ φ, u ≠ .ext φ) : LamX.Tabs T (upd H a u') := fun p hp => by
  obtain ⟨ps, g1, g2, g3⟩ := t p hp
  refine ⟨ps, ?_, g2, fun pos cv hc => ?_⟩
  · rw [upd_ne (fun z => by rw [z, e] at g1; exact h1 ps (Option.some.inj g1))]; exact g1
  · obtain ⟨c, q1, q2⟩ := g3 pos cv hc
    refine ⟨c, q1, ?_⟩
    rw [upd_ne (fun z => by rw [z, e] at q2; exact h2 _ (Option.some.inj q2))]; exact q2
/-- a new object is free -/
theorem Ok.fresh {K : PySem.W.Frag} {w : Wd} {p : Addr} (o : Ok K w) (h : w.H p = none) : Fr w p := by
  refine ⟨?_, ?_, fun r => ?_⟩
  · cases e : w.M p with
    | none => rfl
    | some m =>
      obtain ⟨u, q⟩ := o.tracked e
      rw [h] at q; cases q
  · cases e : w.hd p with
    | none => rfl
    | some m =>
      have q := o.hid p m e
      rw [h] at q; cases q
  · cases e : w.ln r p with
    | none => rfl
    | some m =>
      have q := o.len r p m e
      rw [h] at q; cases q
theorem Ok.keep {K : PySem.W.Frag} {w : Wd} {H' : Hp} (o : Ok K w) (h : ∀ a u, w.H a = some u → H' a = some u) : Ok K (w.at H') where
  mo := fun a m e => by
    obtain ⟨u, q⟩ := o.tracked e
    exact (o.mo a m e).mono (Kp.ex' h) (by show H' a = _; rw [h a u q, q])
  hid := fun a u e => h a u (o.hid a u e)
  ap := o.ap
  len := fun r a u e => h a u (o.len r a u e)
  lap := o.lap
  lfr := o.lfr
  hl := o.hl
  ll := o.ll
  tabs := o.tabs.ext h
theorem Ok.new {K : PySem.W.Frag} {w : Wd} {p : Addr} {o : HO} (k : Ok K w) (h : w.H p = none) : Ok K (w.at (upd w.H p o)) := k.keep fun a u e => by
  rw [upd_ne (ne_of_none e h)]; exact e
end DL
/-! The data layer, part b: readings over data, expressions. -/
namespace DL
open PySem L2

abbrev DEnv := List (Option D)
abbrev DK := D → Mu → Prop
abbrev DE := DEnv → Mu → DK → Prop
abbrev DT := DEnv → Mu → (Bool → Mu → Prop) → Prop
abbrev DA := DEnv → Mu → (List D → Mu → Prop) → Prop
def RE (K : PySem.W.Frag) (w : Wd) (ρ : DEnv) (σ : St) : Prop := σ.length = ρ.length ∧ ∀ (i : Nat) (d : D), ρ[i]? = some (some d) → ∃ v, σ[i]? = some (some v) ∧ Rp K w d v
/-- c: the entry of the def -/
structure At (K : PySem.W.Frag) (c w : Wd) (ρ : DEnv) (σ : St) : Prop where
  kp : Kp c w
  re : RE K w ρ σ
  ok : Ok K w
  hd : w.hd = c.hd
  ln : w.ln = c.ln
/-- what is behind: what stood is kept -/
structure Bh (K : PySem.W.Frag) (w w' : Wd) : Prop where
  kp : Kp w w'
  ok : Ok K w'
  hd : w'.hd = w.hd
  ln : w'.ln = w.ln
/-- what never changes is the same -/
structure SC (c c' : Wd) : Prop where
  cl : c'.cl = c.cl
  ex : c'.ex = c.ex
  tb : c'.tb = c.tb
/-- classes, tables; nothing is handled -/
structure Cc (cl : Str → Addr) (tb : List (Addr × Str)) (c : Wd) : Prop where
  cl : c.cl = cl
  ex : c.ex = none
  tb : c.tb = tb
theorem Kp.sc {c c' : Wd} (k : Kp c c') : SC c c' := ⟨k.cl, k.ex, k.tb⟩
theorem SC.trans {a b c : Wd} (x : SC a b) (y : SC b c) : SC a c := ⟨y.cl.trans x.cl, y.ex.trans x.ex, y.tb.trans x.tb⟩
theorem Cc.sc {cl : Str → Addr} {tb : List (Addr × Str)} {c c' : Wd} (h : Cc cl tb c) (s : SC c c') : Cc cl tb c' := ⟨s.cl.trans h.cl, s.ex.trans h.ex, s.tb.trans h.tb⟩
section
variable {K : PySem.W.Frag} {c w w' w'' : Wd} {ρ : DEnv} {σ : St}
theorem RE.mono (k : Kp w w') (r : RE K w ρ σ) : RE K w' ρ σ := ⟨r.1, fun i d e => let ⟨v, a, b⟩ := r.2 i d e; ⟨v, a, b.mono k⟩⟩
theorem RE.set {i : Nat} {d : D} {v : V} (r : RE K w ρ σ) (h : Rp K w d v) : RE K w (ρ.set i (some d)) (σ.set i (some v)) := by
  refine ⟨by rw [List.length_set, List.length_set]; exact r.1, fun j e q => ?_⟩
  by_cases hj : i = j
  · subst hj
    have hl : i < ρ.length := by
      have := (List.getElem?_eq_some_iff.mp q).1
      rwa [List.length_set] at this
    rw [List.getElem?_set_self hl] at q
    obtain rfl : d = e := by simpa using q
    exact ⟨v, by rw [List.getElem?_set_self (by rw [r.1]; exact hl)], h⟩
  · rw [List.getElem?_set_ne hj] at q
    obtain ⟨w, a, b⟩ := r.2 j e q
    exact ⟨w, by rw [List.getElem?_set_ne hj]; exact a, b⟩
theorem Bh.refl (o : Ok K w) : Bh K w w := ⟨Kp.refl w, o, rfl, rfl⟩
theorem Bh.trans (a : Bh K w w') (b : Bh K w' w'') : Bh K w w'' := ⟨a.kp.trans b.kp, b.ok, b.hd.trans a.hd, b.ln.trans a.ln⟩
theorem Bh.new {p : Addr} {o : HO} (k : Ok K w) (h : w.H p = none) : Bh K w (w.at (upd w.H p o)) := ⟨Kp.new h, k.new h, rfl, rfl⟩
theorem At.next (a : At K c w ρ σ) (b : Bh K w w') : At K c w' ρ σ := ⟨a.kp.trans b.kp, a.re.mono b.kp, b.ok, b.hd.trans a.hd, b.ln.trans a.ln⟩
theorem At.bh (a : At K c w ρ σ) : Bh K c w := ⟨a.kp, a.ok, a.hd, a.ln⟩
theorem At.set {i : Nat} {d : D} {v : V} (a : At K c w ρ σ) (h : Rp K w d v) : At K c w (ρ.set i (some d)) (σ.set i (some v)) := ⟨a.kp, a.re.set h, a.ok, a.hd, a.ln⟩
end
/-- what is wanted of values, from what is wanted of data -/
def Wv (K : PySem.W.Frag) (w : Wd) (Q' : DK) (Q : VK) : Prop := ∀ d w' v, Q' d w'.M → Bh K w w' → Rp K w' d v → Q v w'.H
section
variable {K : PySem.W.Frag} {w w1 : Wd} {Q' : DK} {Q : VK}
theorem Wv.back (k : Wv K w Q' Q) (b : Bh K w w1) : Wv K w1 Q' Q := fun d w' v q b' r => k d w' v q (b.trans b') r
theorem Wv.here {d : D} {v : V} (k : Wv K w Q' Q) (o : Ok K w) (q : Q' d w.M) (r : Rp K w d v) : Q v w.H := k d w v q (Bh.refl o) r
/-- a new object -/
theorem Wv.new {d : D} {p : Addr} {o : HO} (k : Wv K w Q' Q) (ok : Ok K w) (h : w.H p = none) (q : Q' d w.M) (r : Rp K (w.at (upd w.H p o)) d (.ref p)) : Q (.ref p) (upd w.H p o) := k d (w.at (upd w.H p o)) (.ref p) q (Bh.new ok h) r
end
def lift (K : PySem.W.Frag) (c : Wd) (t : DE) : TE := fun σ H Q => ∃ ρ w Q', w.H = H ∧ At K c w ρ σ ∧ t ρ w.M Q' ∧ Wv K w Q' Q
def liftT (K : PySem.W.Frag) (c : Wd) (t : DT) : TT := fun σ H Q => ∃ ρ w Q', w.H = H ∧ At K c w ρ σ ∧ t ρ w.M Q' ∧ ∀ b w', Q' b w'.M → Bh K w w' → Q b w'.H
def liftA (K : PySem.W.Frag) (c : Wd) (t : DA) : TA := fun σ H Q => ∃ ρ w Q', w.H = H ∧ At K c w ρ σ ∧ t ρ w.M Q' ∧ ∀ ds w' vs, Q' ds w'.M → Bh K w w' → RpL K w' ds vs → Q vs w'.H
abbrev PD (c : Wd) (X : Cx) (e : Expr) (t : DE) : Prop := PE X e (lift X.K c t)
abbrev PDT (c : Wd) (X : Cx) (e : Expr) (t : DT) : Prop := PT X e (liftT X.K c t)
abbrev PDW (c : Wd) (X : Cx) (e : Expr) (t : DT) : Prop := PW X e (liftT X.K c t)
abbrev PDA (c : Wd) (X : Cx) (es : List Expr) (t : DA) : Prop := PA X es (liftA X.K c t)
theorem PE_imp {X : Cx} {e : Expr} {t t' : TE} (h : PE X e t) (i : ∀ σ H Q, t' σ H Q → t σ H Q) : PE X e t' := ⟨fun pins s σ H Q I q => h.run pins s σ H Q I (i σ H Q q)⟩
theorem PT_imp {X : Cx} {e : Expr} {t t' : TT} (h : PT X e t) (i : ∀ σ H Q, t' σ H Q → t σ H Q) : PT X e t' := ⟨fun pins s σ H Q I q => h.run pins s σ H Q I (i σ H Q q)⟩
theorem PW_imp {X : Cx} {e : Expr} {t t' : TT} (h : PW X e t) (i : ∀ σ H Q, t' σ H Q → t σ H Q) : PW X e t' := ⟨fun wh pins s σ H Q I q => h.run wh pins s σ H Q I (i σ H Q q)⟩
theorem PA_imp {X : Cx} {es : List Expr} {t t' : TA} (h : PA X es t) (i : ∀ σ H Q, t' σ H Q → t σ H Q) : PA X es t' := ⟨fun pos pins s σ H Q I q => h.run pos pins s σ H Q I (i σ H Q q)⟩

/-! ### names, constants -/
@[simp] def dVar (i : Nat) : DE := fun ρ M Q => match ρ[i]? with | some (some d) => Q d M | _ => False
@[simp] def dC (d : D) : DE := fun _ M Q => Q d M
section
variable {X : Cx} {c : Wd}
theorem pd_var (i : Nat) {x : Str} {pos : Pos} (hN : X.N[i]? = some x := by rfl) (hv : Vis X.env.scope x := by first | exact Or.inl rfl | exact Or.inr (Or.inl rfl) | exact Or.inr (Or.inr rfl)) (hd : (x == ("__debug__" : Str)) = false := by decide)
    (hcd : (x == ("__classdict__" : Str)) = false := by decide) : PD c X (.Name x pos) (dVar i) := PE_imp (pe_var hN hv hd hcd) fun σ H Q ⟨ρ, w, Q', hH, a, h, k⟩ => by
  subst hH
  unfold dVar at h
  cases e : ρ[i]? with
  | none => rw [e] at h; exact h.elim
  | some o =>
    rw [e] at h
    cases o with
    | none => exact h.elim
    | some d =>
      obtain ⟨v, h1, h2⟩ := a.re.2 i d e
      exact ⟨v, h1, k.here a.ok h h2⟩
theorem pd_of {e : Expr} {v : V} {d : D} (h : PE X e (tC v)) (r : ∀ w, Rp X.K w d v) : PD c X e (dC d) := PE_imp h fun σ H Q ⟨ρ, w, Q', hH, a, h, k⟩ => hH ▸ k.here a.ok h (r w)
theorem pd_int {i j pos} : PD c X (.Constant (.int i) j pos) (dC (.int i)) := pd_of pe_int fun _ => rfl
theorem pd_bl {b j pos} : PD c X (.Constant (.bool b) j pos) (dC (.bl b)) := pd_of pe_bl fun _ => rfl
theorem pd_non {j pos} : PD c X (.Constant .none j pos) (dC .non) := pd_of pe_non fun _ => rfl
theorem pd_str {x j pos} : PD c X (.Constant (.str x) j pos) (dC (.str x)) := pd_of pe_str fun _ => rfl
/-- a name of the module: a constant -/
theorem pd_glob {x : Str} {v : V} {d : D} {u : Value} {pos : Pos} (hg : Gl X x) (hm : X.mg x = some u) (r : RelV v u) (rd : ∀ w, Rp X.K w d v) (hd : (x == ("__debug__" : Str)) = false := by decide) : PD c X (.Name x pos) (dC d) := pd_of (pe_glob hg hm r hd) rd

/-! ### operators -/
abbrev D2 := D → D → Mu → DK → Prop
@[simp] def dOp (g : D2) (ta tb : DE) : DE := fun ρ M Q => ta ρ M fun x M1 => tb ρ M1 fun y M2 => g x y M2 Q
def liftO (K : PySem.W.Frag) (g : D2) : R2 := fun x y H Q => ∃ w dx dy Q', w.H = H ∧ Ok K w ∧ Rp K w dx x ∧ Rp K w dy y ∧ g dx dy w.M Q' ∧ Wv K w Q' Q
abbrev OpD (X : Cx) (f : Value → Value → Sem Value) (g : D2) : Prop := OpR X f (liftO X.K g)
variable {a b e : Expr} {ta tb te : DE} {pos : Pos} {g g' : D2}
theorem op_imp {ρ : DEnv} {w : Wd} {Q' : DK} {K : PySem.W.Frag} {σ : St} {H : Hp} {Q : VK} (hH : w.H = H) (a : At K c w ρ σ) (h : dOp g ta tb ρ w.M Q') (k : Wv K w Q' Q) : tOp (liftO K g) (lift K c ta) (lift K c tb) σ H Q :=
  ⟨ρ, w, _, hH, a, h, fun d w1 v q b1 r => ⟨ρ, w1, _, rfl, a.next b1, q, fun e w2 v2 q2 b2 r2 => ⟨w2, d, e, Q', rfl, b2.ok, r.mono b2.kp, r2, q2, k.back (b1.trans b2)⟩⟩⟩
theorem pd_op {op : Operator} (ho : OpD X (binaryOp op) g) (ha : PD c X a ta) (hb : PD c X b tb) : PD c X (.BinOp a op b pos) (dOp g ta tb) := PE_imp (pe_op ho ha hb) fun _ _ _ ⟨_, _, _, hH, a, h, k⟩ => op_imp hH a h k
theorem pd_cmp {op : CmpOp} (ho : OpD X (compareOp op) g) (ha : PD c X a ta) (hb : PD c X b tb) (hm : behindInMarks op b = false := by first | exact nobehind _ (by decide) (by decide) | rfl) : PD c X (.Compare a [op] [b] pos) (dOp g ta tb) :=
  PE_imp (pe_cmpR ho ha hb hm) fun _ _ _ ⟨_, _, _, hH, a, h, k⟩ => op_imp hH a h k
/-- an answer that is a bool -/
@[simp] def isB (Q : Bool → Mu → Prop) : DK := fun d M => match d with | .bl k => Q k M | _ => False
@[simp] def dB (t : DE) : DT := fun ρ M Q => t ρ M (isB Q)
theorem Wv.isB {K : PySem.W.Frag} {w : Wd} {Q' : Bool → Mu → Prop} {Q : Bool → Hp → Prop} (k : ∀ b w', Q' b w'.M → Bh K w w' → Q b w'.H) : Wv K w (DL.isB Q') (fun x H' => ∃ k, x = .bl k ∧ Q k H') := fun d w' v q b r => by
  cases d with
  | bl z => obtain rfl : v = .bl z := r; exact ⟨z, rfl, k z w' q b⟩
  | _ => exact q.elim
theorem pdt_cmp {op : CmpOp} (ho : OpD X (compareOp op) g) (ha : PD c X a ta) (hb : PD c X b tb) (hm : behindInMarks op b = false := by first | exact nobehind _ (by decide) (by decide) | rfl) : PDT c X (.Compare a [op] [b] pos) (dB (dOp g ta tb)) :=
  PT_imp (pt_cmpR ho ha hb hm) fun _ _ _ ⟨_, _, _, hH, a, h, k⟩ => op_imp hH a h (Wv.isB k)
/-- a value that is a bool, as a test -/
theorem pdt_val (h : PD c X e te) (he : ∀ whole, isTrue e X.env whole = (do let v ← whole; standAt e.pos; holding [v] (truthy v)) := by intro _; rfl) : PDT c X e (dB te) :=
  PT_imp (pt_val h he) fun _ _ _ ⟨ρ, w, Q', hH, a, h, k⟩ => ⟨ρ, w, _, hH, a, h, Wv.isB k⟩

/-! ### and, or, not, if -/
variable {tA tB tC' : DT} {rest : List Expr}
@[simp] def dAnd (t u : DT) : DT := fun ρ M Q => t ρ M fun k M1 => if k = true then u ρ M1 Q else Q false M1
@[simp] def dOr (t u : DT) : DT := fun ρ M Q => t ρ M fun k M1 => if k = true then Q true M1 else u ρ M1 Q
@[simp] def dNot (t : DT) : DT := fun ρ M Q => t ρ M fun k M1 => Q (!k) M1
theorem pdw_one {op} (ha : PDT c X a tA) : PDW c X (.BoolOp op [a] pos) tA := by
  cases op with
  | And => exact pw_and1 ha
  | Or => exact pw_or1 ha
theorem pdw_and (ha : PDT c X a tA) (hb : PDW c X (.BoolOp .And (b :: rest) pos) tB) : PDW c X (.BoolOp .And (a :: b :: rest) pos) (dAnd tA tB) := PW_imp (pw_and ha hb) fun σ H Q ⟨ρ, w, Q', hH, a, h, k⟩ =>
  ⟨ρ, w, _, hH, a, h, fun z w1 q b1 => by
    cases z with
    | true => exact iteT ⟨ρ, w1, Q', rfl, a.next b1, q, fun b w' q b' => k b w' q (b1.trans b')⟩
    | false => exact iteF (k false w1 q b1)⟩
theorem pdw_or (ha : PDT c X a tA) (hb : PDW c X (.BoolOp .Or (b :: rest) pos) tB) : PDW c X (.BoolOp .Or (a :: b :: rest) pos) (dOr tA tB) := PW_imp (pw_or ha hb) fun σ H Q ⟨ρ, w, Q', hH, a, h, k⟩ =>
  ⟨ρ, w, _, hH, a, h, fun z w1 q b1 => by
    cases z with
    | false => exact iteF ⟨ρ, w1, Q', rfl, a.next b1, q, fun b w' q b' => k b w' q (b1.trans b')⟩
    | true => exact iteT (k true w1 q b1)⟩
theorem pdt_not (ha : PDT c X a tA) : PDT c X (.UnaryOp .Not a pos) (dNot tA) := PT_imp (pt_not ha) fun σ H Q ⟨ρ, w, Q', hH, a, h, k⟩ => ⟨ρ, w, _, hH, a, h, fun z w1 q b1 => k _ w1 q b1⟩
@[simp] def dAndV (t u : DE) : DE := fun ρ M Q => t ρ M fun d M1 => match d with | .bl k => if k = true then u ρ M1 Q else Q (.bl false) M1 | _ => False
@[simp] def dOrV (t u : DE) : DE := fun ρ M Q => t ρ M fun d M1 => match d with | .bl k => if k = true then Q (.bl true) M1 else u ρ M1 Q | _ => False
@[simp] def dNotV (t : DE) : DE := fun ρ M Q => t ρ M fun d M1 => match d with | .bl k => Q (.bl (!k)) M1 | _ => False
theorem pd_one {op} (h : PD c X a ta) : PD c X (.BoolOp op [a] pos) ta := pe_one h
theorem pd_and (ha : PD c X a ta) (hb : PD c X (.BoolOp .And (b :: rest) pos) tb) : PD c X (.BoolOp .And (a :: b :: rest) pos) (dAndV ta tb) := PE_imp (pe_and ha hb) fun σ H Q ⟨ρ, w, Q', hH, a, h, k⟩ =>
  ⟨ρ, w, _, hH, a, h, fun d w1 v q b1 r => by
    cases d with
    | bl z =>
      obtain rfl : v = .bl z := r
      cases z with
      | true => exact ⟨true, rfl, iteT ⟨ρ, w1, Q', rfl, a.next b1, q, k.back b1⟩⟩
      | false => exact ⟨false, rfl, iteF (k _ w1 _ q b1 rfl)⟩
    | _ => exact q.elim⟩
theorem pd_or (ha : PD c X a ta) (hb : PD c X (.BoolOp .Or (b :: rest) pos) tb) : PD c X (.BoolOp .Or (a :: b :: rest) pos) (dOrV ta tb) := PE_imp (pe_or ha hb) fun σ H Q ⟨ρ, w, Q', hH, a, h, k⟩ =>
  ⟨ρ, w, _, hH, a, h, fun d w1 v q b1 r => by
    cases d with
    | bl z =>
      obtain rfl : v = .bl z := r
      cases z with
      | false => exact ⟨false, rfl, iteF ⟨ρ, w1, Q', rfl, a.next b1, q, k.back b1⟩⟩
      | true => exact ⟨true, rfl, iteT (k _ w1 _ q b1 rfl)⟩
    | _ => exact q.elim⟩
theorem pd_not (ha : PD c X a ta) : PD c X (.UnaryOp .Not a pos) (dNotV ta) := PE_imp (pe_not ha) fun σ H Q ⟨ρ, w, Q', hH, a, h, k⟩ =>
  ⟨ρ, w, _, hH, a, h, fun d w1 v q b1 r => by
    cases d with
    | bl z => obtain rfl : v = .bl z := r; exact ⟨z, rfl, k _ w1 _ q b1 rfl⟩
    | _ => exact q.elim⟩
@[simp] def dIf (t : DT) (ta tb : DE) : DE := fun ρ M Q => t ρ M fun k M1 => if k = true then ta ρ M1 Q else tb ρ M1 Q
theorem pd_if {t : Expr} (ht : PDT c X t tA) (ha : PD c X a ta) (hb : PD c X b tb) : PD c X (.IfExp t a b pos) (dIf tA ta tb) := PE_imp (pe_ifExp ht ha hb) fun σ H Q ⟨ρ, w, Q', hH, a, h, k⟩ =>
  ⟨ρ, w, _, hH, a, h, fun z w1 q b1 => by
    cases z with
    | true => exact iteT ⟨ρ, w1, Q', rfl, a.next b1, q, k.back b1⟩
    | false => exact iteF ⟨ρ, w1, Q', rfl, a.next b1, q, k.back b1⟩⟩

/-! ### arguments, displays -/
@[simp] def dNil : DA := fun _ M Q => Q [] M
@[simp] def dCons (t : DE) (u : DA) : DA := fun ρ M Q => t ρ M fun d M1 => u ρ M1 fun ds M2 => Q (d :: ds) M2
variable {es : List Expr} {tl : DA}
theorem pda_nil : PDA c X [] dNil := PA_imp pa_nil fun σ H Q ⟨ρ, w, Q', hH, a, h, k⟩ => hH ▸ k [] w [] h (Bh.refl a.ok) rfl
theorem pda_cons (ha : PD c X e te) (hr : PDA c X es tl) (hs : starEach (e :: es) X.env = (false, eval e X.env) :: starEach es X.env := by rfl) : PDA c X (e :: es) (dCons te tl) := PA_imp (pa_cons ha hr hs) fun σ H Q ⟨ρ, w, Q', hH, a, h, k⟩ =>
  ⟨ρ, w, _, hH, a, h, fun d w1 v q b1 r => ⟨ρ, w1, _, rfl, a.next b1, q, fun ds w2 vs q2 b2 r2 => k (d :: ds) w2 (v :: vs) q2 (b1.trans b2) ⟨v, vs, rfl, r.mono b2.kp, r2⟩⟩⟩
@[simp] def dTup (t : DA) : DE := fun ρ M Q => t ρ M fun ds M1 => ds.length ≤ 100000 ∧ Q (.tup ds) M1
@[simp] def dLst (t : DA) : DE := fun ρ M Q => t ρ M fun ds M1 => ds.length ≤ 100000 ∧ Q (.lst 0 ds) M1
theorem sz {n : Nat} (h : n ≤ 100000) : n ≤ sizeLine := Nat.le_trans h (by decide)
theorem szlt {n : Nat} (h : n < 100000) : n < sizeLine := Nat.lt_of_lt_of_le h (by decide)
/-- data that was just laid -/
theorem rp_lst {K : PySem.W.Frag} {w : Wd} {p : Addr} {ds : List D} {xs : List V} (o : Ok K w) (h : w.H p = none) (r : RpL K w ds xs) : Rp K (w.at (upd w.H p (.lst xs))) (.lst 0 ds) (.ref p) := ⟨p, xs, rfl, LsAt.free (o.fresh h).at upd_same, r.mono (Kp.new h)⟩
theorem rp_tup {K : PySem.W.Frag} {w : Wd} {p : Addr} {ds : List D} {xs : List V} (o : Ok K w) (h : w.H p = none) (r : RpL K w ds xs) : Rp K (w.at (upd w.H p (.tup xs))) (.tup ds) (.ref p) := ⟨p, xs, rfl, .inl ⟨(o.fresh h).at, upd_same⟩, r.mono (Kp.new h)⟩
theorem pd_tup {x1} (h : PDA c X es tl) : PD c X (.Tuple es x1 pos) (dTup tl) := PE_imp (pe_tup h) fun σ H Q ⟨ρ, w, Q', hH, a, h, k⟩ =>
  ⟨ρ, w, _, hH, a, h, fun ds w1 vs q b1 r => ⟨sz (by rw [r.length]; exact q.1), fun p hp => (k.back b1).new b1.ok hp q.2 (rp_tup b1.ok hp r)⟩⟩
theorem pd_lst (h : PDA c X es tl) : PD c X (.List es pos) (dLst tl) := PE_imp (pe_lst h) fun σ H Q ⟨ρ, w, Q', hH, a, h, k⟩ =>
  ⟨ρ, w, _, hH, a, h, fun ds w1 vs q b1 r => ⟨sz (by rw [r.length]; exact q.1), fun p hp => (k.back b1).new b1.ok hp q.2 (rp_lst b1.ok hp r)⟩⟩

/-! ### calls of built-ins by values -/
abbrev DC := List D → Mu → DK → Prop
@[simp] def dCB (g : DC) (t : DA) : DE := fun ρ M Q => t ρ M fun ds M1 => g ds M1 Q
def liftC (K : PySem.W.Frag) (g : DC) : List V → Hp → VK → Prop := fun vs H Q => ∃ w ds Q', w.H = H ∧ Ok K w ∧ RpL K w ds vs ∧ g ds w.M Q' ∧ Wv K w Q' Q
abbrev CallD (X : Cx) (f : Value) (g : DC) : Prop := CallR X f (liftC X.K g)
variable {id T : String} {x : Str} {p : Pos} {gc : DC}
theorem cb_imp {ρ : DEnv} {w : Wd} {Q' : DK} {K : PySem.W.Frag} {σ : St} {H : Hp} {Q : VK} (hH : w.H = H) (a : At K c w ρ σ) (h : dCB gc tl ρ w.M Q') (k : Wv K w Q' Q) : tCB (liftC K gc) (liftA K c tl) σ H Q :=
  ⟨ρ, w, _, hH, a, h, fun ds w1 vs q b1 r => ⟨w1, ds, Q', rfl, b1.ok, r, q, k.back b1⟩⟩
theorem pd_callB (hc : CallD X (.builtin id) gc) (hg : Gl X x) (hm : X.mg x = none) (hv : bootBuiltins x = some (.builtin id)) (ha : PDA c X (e :: es) tl) (hn : x ≠ "__name__" := by decide) (hdb : (x == ("__debug__" : Str)) = false := by decide)
    (he : starEach (e :: es) X.env = (false, eval e X.env) :: starEach es X.env := by rfl) (hpl : (backTo pos (starEach es X.env)).any (·.1) = false := by rfl) : PD c X (.Call (.Name x p) (e :: es) [] pos) (dCB gc tl) :=
  PE_imp (pe_callB hc hg hm hv ha hn hdb he hpl) fun _ _ _ ⟨_, _, _, hH, a, h, k⟩ => cb_imp hH a h k
theorem pd_callTy (hc : CallD X (.type T) gc) (hg : Gl X x) (hm : X.mg x = none) (hv : bootBuiltins x = some (.type T)) (ha : PDA c X (e :: es) tl) (hn : x ≠ "__name__" := by decide) (hdb : (x == ("__debug__" : Str)) = false := by decide)
    (he : starEach (e :: es) X.env = (false, eval e X.env) :: starEach es X.env := by rfl) (hpl : (backTo pos (starEach es X.env)).any (·.1) = false := by rfl) : PD c X (.Call (.Name x p) (e :: es) [] pos) (dCB gc tl) :=
  PE_imp (pe_callTy hc hg hm hv ha hn hdb he hpl) fun _ _ _ ⟨_, _, _, hH, a, h, k⟩ => cb_imp hH a h k
end
end DL
/-! The data layer, part c: operators, subscripts, built-in calls. -/
namespace DL
open PySem L2

/-! ### plain data -/
mutual
def py : D → PyData
  | .non => .none
  | .bl b => .bool b
  | .int i => .int i
  | .str x => .str x
  | .lst _ xs => .list (pyL xs)
  | .tup xs => .tuple (pyL xs)
  | .dct _ => .none
  | .obj _ _ => .none
  | .ref _ => .none
  | .ty _ => .none
  | .scr _ => .none
  | .exc _ _ => .none
  | .cls _ => .none
def pyL : List D → List PyData
  | [] => []
  | x :: xs => py x :: pyL xs
end
theorem pyL_map : ∀ xs : List D, pyL xs = xs.map py
  | [] => rfl
  | x :: xs => by rw [pyL, pyL_map xs, List.map_cons]
theorem py_lst (r : Nat) (xs : List D) : py (.lst r xs) = .list (xs.map py) := by rw [py, pyL_map]
theorem py_tup (xs : List D) : py (.tup xs) = .tuple (xs.map py) := by rw [py, pyL_map]
def pyN : Nat → D → Bool
  | _, .non => true
  | _, .bl _ => true
  | _, .int _ => true
  | _, .str x => PyData.strOk x
  | n + 1, .lst _ xs => xs.all (pyN n)
  | n + 1, .tup xs => xs.all (pyN n)
  | _, _ => false
def flatD : D → Bool
  | .non => true
  | .bl _ => true
  | .int _ => true
  | .str _ => true
  | _ => false
def strPair : D → D → Bool
  | .str _, .str _ => true
  | .str _, .non => true
  | .str _, .int _ => true
  | .str _, .bl _ => true
  | .non, .str _ => true
  | .int _, .str _ => true
  | .bl _, .str _ => true
  | _, _ => false
def eqOk (x y : D) : Bool := strPair x y || (pyN 30 x && pyN 30 y)
def eqB (x y : D) : Bool := PyData.eqv (py x) (py y)
section
variable {K : PySem.W.Frag} {w : Wd}
theorem dp_of : ∀ (n : Nat) (d : D) (v : V), pyN n d = true → Rp K w d v → Dp K w.H v (py d) ∧ PyData.canLay0 (py d) = true ∧ PyData.depth (py d) ≤ n := by
  have key : ∀ (n : Nat), (∀ (d : D) (v : V), pyN n d = true → Rp K w d v → Dp K w.H v (py d) ∧ PyData.canLay0 (py d) = true ∧ PyData.depth (py d) ≤ n) →
      ∀ (ds : List D) (vs : List V), ds.all (pyN n) = true → RpL K w ds vs → DpAll K w.H vs (ds.map py) ∧ PyData.canLayAll0 (ds.map py) = true ∧ PyData.depthAll (ds.map py) ≤ n := by
    intro n ih ds
    induction ds with
    | nil => intro vs _ r; obtain rfl : vs = [] := r; exact ⟨.nil, rfl, Nat.zero_le _⟩
    | cons d ds ih2 =>
      intro vs h r
      obtain ⟨x, q, rfl, r1, r2⟩ := r
      rw [List.all_cons, Bool.and_eq_true] at h
      obtain ⟨a1, a2, a3⟩ := ih d x h.1 r1
      obtain ⟨b1, b2, b3⟩ := ih2 q h.2 r2
      refine ⟨.cons a1 b1, ?_, ?_⟩
      · rw [List.map_cons, PyData.canLayAll0, a2, b2]; rfl
      · rw [List.map_cons, PyData.depthAll]; omega
  intro n
  induction n with
  | zero =>
    intro d v h r
    cases d with
    | non => obtain rfl : v = .non := r; exact ⟨.non, rfl, Nat.le_refl _⟩
    | bl b => obtain rfl : v = .bl b := r; exact ⟨.bl b, rfl, Nat.le_refl _⟩
    | int i => obtain rfl : v = .int i := r; exact ⟨.int i, rfl, Nat.le_refl _⟩
    | str x => obtain rfl : v = .str x := r; exact ⟨.str x, h, Nat.le_refl _⟩
    | _ => exact absurd h (by simp [pyN])
  | succ n ih =>
    intro d v h r
    cases d with
    | non => obtain rfl : v = .non := r; exact ⟨.non, rfl, Nat.zero_le _⟩
    | bl b => obtain rfl : v = .bl b := r; exact ⟨.bl b, rfl, Nat.zero_le _⟩
    | int i => obtain rfl : v = .int i := r; exact ⟨.int i, rfl, Nat.zero_le _⟩
    | str x => obtain rfl : v = .str x := r; exact ⟨.str x, h, Nat.zero_le _⟩
    | lst t ds =>
      obtain ⟨a, xs, rfl, hl, hr⟩ := r
      obtain ⟨b1, b2, b3⟩ := key n ih ds xs h hr
      rw [py_lst]
      exact ⟨.lst hl.sq b1, b2, Nat.succ_le_succ b3⟩
    | tup ds =>
      obtain ⟨a, xs, rfl, hl, hr⟩ := r
      obtain ⟨b1, b2, b3⟩ := key n ih ds xs h hr
      rw [py_tup]
      exact ⟨.tup hl.sq b1, b2, Nat.succ_le_succ b3⟩
    | _ => exact absurd h (by simp [pyN])
theorem shaped_of {d : D} {v : V} (h : pyN 30 d = true) (r : Rp K w d v) : Dp K w.H v (py d) ∧ SeqAt.shaped (py d) = true := by
  obtain ⟨a, b, c⟩ := dp_of 30 d v h r
  refine ⟨a, ?_⟩
  unfold SeqAt.shaped
  rw [b, decide_eq_true (show (py d).depth ≤ 64 by omega)]
  rfl
end

/-! ### operators -/
@[simp] def addD : D2 := fun x y M Q => match x, y with
  | .int i, .int j => Q (.int (i + j)) M
  | .str a, .str b => a.length + b.length ≤ 100000 ∧ Q (.str (a ++ b)) M
  | .lst _ a, .lst _ b => a.length + b.length ≤ 100000 ∧ Q (.lst 0 (a ++ b)) M
  | .tup a, .tup b => a.length + b.length ≤ 100000 ∧ Q (.tup (a ++ b)) M
  | _, _ => False
@[simp] def subD : D2 := fun x y M Q => match x, y with
  | .int i, .int j => Q (.int (i - j)) M
  | _, _ => False
@[simp] def mulD : D2 := fun x y M Q => match x, y with
  | .int i, .int j => CMul i j ∧ Q (.int (i * j)) M
  | .lst _ a, .int k => 0 ≤ k ∧ k ≤ 100000 ∧ a.length * k.toNat ≤ 100000 ∧ Q (.lst 0 (List.replicate k.toNat a).flatten) M
  | _, _ => False
@[simp] def fdivD : D2 := fun x y M Q => match x, y with
  | .int i, .int j => (0 < j ∧ j < 1073741824) ∧ Q (.int (i / j)) M
  | _, _ => False
@[simp] def modD : D2 := fun x y M Q => match x, y with
  | .int i, .int j => 0 < j ∧ Q (.int (i % j)) M
  | _, _ => False
@[simp] def powD : D2 := fun x y M Q => match x, y with
  | .int i, .int j => CPow i j ∧ Q (.int (i ^ j.toNat)) M
  | _, _ => False
@[simp] def eqD : D2 := fun x y M Q => eqOk x y = true ∧ Q (.bl (eqB x y)) M
@[simp] def neD : D2 := fun x y M Q => eqOk x y = true ∧ Q (.bl (!eqB x y)) M
@[simp] def ltD : D2 := fun x y M Q => match x, y with
  | .int i, .int j => Q (.bl (decide (i < j))) M
  | _, _ => False
@[simp] def leD : D2 := fun x y M Q => match x, y with
  | .int i, .int j => Q (.bl (decide (i ≤ j))) M
  | _, _ => False
@[simp] def gtD : D2 := fun x y M Q => match x, y with
  | .int i, .int j => Q (.bl (decide (j < i))) M
  | _, _ => False
@[simp] def geD : D2 := fun x y M Q => match x, y with
  | .int i, .int j => Q (.bl (decide (j ≤ i))) M
  | _, _ => False
def isNon : D → Bool
  | .non => true
  | _ => false
@[simp] def isND : D2 := fun x y M Q => match y with
  | .non => Q (.bl (isNon x)) M
  | _ => False
@[simp] def notND : D2 := fun x y M Q => match y with
  | .non => Q (.bl (!isNon x)) M
  | _ => False
def inB (x : D) (ys : List D) : Bool := ys.any fun y => eqB y x
def subText (a b : Str) : Bool := !(Builtin.Str.occurrences b a 0 b.length 1).isEmpty
@[simp] def inD : D2 := fun x y M Q => match x, y with
  | .str a, .str b => Q (.bl (subText a b)) M
  | x, .lst _ ys => (flatD x = true ∧ ys.all flatD = true) ∧ Q (.bl (inB x ys)) M
  | x, .tup ys => (flatD x = true ∧ ys.all flatD = true) ∧ Q (.bl (inB x ys)) M
  | _, _ => False
@[simp] def ninD : D2 := fun x y M Q => match x, y with
  | .str a, .str b => Q (.bl (!subText a b)) M
  | x, .lst _ ys => (flatD x = true ∧ ys.all flatD = true) ∧ Q (.bl (!inB x ys)) M
  | x, .tup ys => (flatD x = true ∧ ys.all flatD = true) ∧ Q (.bl (!inB x ys)) M
  | _, _ => False
section
variable {X : Cx}
theorem opD_add : OpD X (binaryOp .Add) addD := by
  intro pins s σ H x y v u Q I rx ry ⟨w, dx, dy, Q', hH, ok, r1, r2, h, k⟩
  subst hH
  cases dx <;> cases dy <;> first | exact False.elim h | skip
  case int.int i j =>
    obtain rfl : x = .int i := r1; obtain rfl : y = .int j := r2
    exact op_add pins s σ _ _ _ v u Q I rx ry ⟨i, j, rfl, rfl, k.here ok h rfl⟩
  case str.str a b =>
    obtain rfl : x = .str a := r1; obtain rfl : y = .str b := r2
    exact op_add_str pins s σ _ _ _ v u Q I rx ry ⟨a, b, rfl, rfl, sz h.1, k.here ok h.2 rfl⟩
  case lst.lst t1 a t2 b =>
    obtain ⟨p, xs, rfl, l1, s1⟩ := r1; obtain ⟨p2, ys, rfl, l2, s2⟩ := r2
    refine op_cat pins s σ _ _ _ v u Q I rx ry ⟨p, p2, xs, ys, rfl, rfl, l1.1, l2.1, by rw [s1.length, s2.length]; exact sz h.1, fun q hq => ?_⟩
    exact k.new ok hq h.2 (rp_lst ok hq (s1.append s2))
  case tup.tup a b =>
    obtain ⟨p, xs, rfl, l1, s1⟩ := r1; obtain ⟨p2, ys, rfl, l2, s2⟩ := r2
    refine op_catA pins s σ _ _ _ v u Q I rx ry ⟨p, p2, xs, ys, rfl, rfl, l1.sq, l2.sq, by rw [s1.length, s2.length]; exact sz h.1, fun e => ?_, fun _ e => ?_, fun _ _ q hq => ?_⟩
    · subst e
      cases a with
      | nil => exact k.here ok h.2 ⟨p2, ys, rfl, l2, s2⟩
      | cons d r => obtain ⟨_, _, z, _⟩ := s1; cases z
    · subst e
      cases b with
      | nil => exact k.here ok h.2 (by rw [List.append_nil]; exact ⟨p, xs, rfl, l1, s1⟩)
      | cons d r => obtain ⟨_, _, z, _⟩ := s2; cases z
    · exact k.new ok hq h.2 (rp_tup ok hq (s1.append s2))
theorem opD_sub : OpD X (binaryOp .Sub) subD := by
  intro pins s σ H x y v u Q I rx ry ⟨w, dx, dy, Q', hH, ok, r1, r2, h, k⟩
  subst hH
  cases dx <;> cases dy <;> first | exact False.elim h | skip
  case int.int i j =>
    obtain rfl : x = .int i := r1; obtain rfl : y = .int j := r2
    exact op_sub pins s σ _ _ _ v u Q I rx ry ⟨i, j, rfl, rfl, k.here ok h rfl⟩
theorem rp_flat {K : PySem.W.Frag} {w : Wd} {ds : List D} {xs : List V} (r : RpL K w ds xs) : ∀ n : Nat, RpL K w (List.replicate n ds).flatten (List.replicate n xs).flatten
  | 0 => rfl
  | n + 1 => by
    rw [List.replicate_succ, List.replicate_succ, List.flatten_cons, List.flatten_cons]
    exact r.append (rp_flat r n)
theorem opD_mul : OpD X (binaryOp .Mult) mulD := by
  intro pins s σ H x y v u Q I rx ry ⟨w, dx, dy, Q', hH, ok, r1, r2, h, k⟩
  subst hH
  cases dx <;> cases dy <;> first | exact False.elim h | skip
  case int.int i j =>
    obtain rfl : x = .int i := r1; obtain rfl : y = .int j := r2
    exact op_mul pins s σ _ _ _ v u Q I rx ry ⟨i, j, rfl, rfl, h.1, k.here ok h.2 rfl⟩
  case lst.int t1 a n =>
    obtain ⟨p, xs, rfl, l1, s1⟩ := r1; obtain rfl : y = .int n := r2
    refine op_rep pins s σ _ _ _ v u Q I rx ry ⟨p, n, xs, rfl, rfl, l1.1, (by have h1 := h.1; have h2 := h.2.1; omega), (by have h1 := h.1; have h2 := h.2.1; omega), by rw [s1.length]; exact sz h.2.2.1, fun q hq => ?_⟩
    exact k.new ok hq h.2.2.2 (rp_lst ok hq (rp_flat s1 n.toNat))
theorem opD_fdiv : OpD X (binaryOp .FloorDiv) fdivD := by
  intro pins s σ H x y v u Q I rx ry ⟨w, dx, dy, Q', hH, ok, r1, r2, h, k⟩
  subst hH
  cases dx <;> cases dy <;> first | exact False.elim h | skip
  case int.int i j =>
    obtain rfl : x = .int i := r1; obtain rfl : y = .int j := r2
    exact op_fdiv pins s σ _ _ _ v u Q I rx ry ⟨i, j, rfl, rfl, h.1, k.here ok h.2 rfl⟩
theorem opD_mod : OpD X (binaryOp .Mod) modD := by
  intro pins s σ H x y v u Q I rx ry ⟨w, dx, dy, Q', hH, ok, r1, r2, h, k⟩
  subst hH
  cases dx <;> cases dy <;> first | exact False.elim h | skip
  case int.int i j =>
    obtain rfl : x = .int i := r1; obtain rfl : y = .int j := r2
    exact op_mod pins s σ _ _ _ v u Q I rx ry ⟨i, j, rfl, rfl, h.1, k.here ok h.2 rfl⟩
theorem opD_pow : OpD X (binaryOp .Pow) powD := by
  intro pins s σ H x y v u Q I rx ry ⟨w, dx, dy, Q', hH, ok, r1, r2, h, k⟩
  subst hH
  cases dx <;> cases dy <;> first | exact False.elim h | skip
  case int.int i j =>
    obtain rfl : x = .int i := r1; obtain rfl : y = .int j := r2
    exact op_pow pins s σ _ _ _ v u Q I rx ry ⟨i, j, rfl, rfl, h.1, k.here ok h.2 rfl⟩
theorem opD_lt : OpD X (compareOp .Lt) ltD := by
  intro pins s σ H x y v u Q I rx ry ⟨w, dx, dy, Q', hH, ok, r1, r2, h, k⟩
  subst hH
  cases dx <;> cases dy <;> first | exact False.elim h | skip
  case int.int i j =>
    obtain rfl : x = .int i := r1; obtain rfl : y = .int j := r2
    exact op_lt pins s σ _ _ _ v u Q I rx ry ⟨i, j, rfl, rfl, k.here ok h rfl⟩
theorem opD_le : OpD X (compareOp .LtE) leD := by
  intro pins s σ H x y v u Q I rx ry ⟨w, dx, dy, Q', hH, ok, r1, r2, h, k⟩
  subst hH
  cases dx <;> cases dy <;> first | exact False.elim h | skip
  case int.int i j =>
    obtain rfl : x = .int i := r1; obtain rfl : y = .int j := r2
    exact op_le pins s σ _ _ _ v u Q I rx ry ⟨i, j, rfl, rfl, k.here ok h rfl⟩
theorem opD_gt : OpD X (compareOp .Gt) gtD := by
  intro pins s σ H x y v u Q I rx ry ⟨w, dx, dy, Q', hH, ok, r1, r2, h, k⟩
  subst hH
  cases dx <;> cases dy <;> first | exact False.elim h | skip
  case int.int i j =>
    obtain rfl : x = .int i := r1; obtain rfl : y = .int j := r2
    exact op_gt pins s σ _ _ _ v u Q I rx ry ⟨i, j, rfl, rfl, k.here ok h rfl⟩
theorem opD_ge : OpD X (compareOp .GtE) geD := by
  intro pins s σ H x y v u Q I rx ry ⟨w, dx, dy, Q', hH, ok, r1, r2, h, k⟩
  subst hH
  cases dx <;> cases dy <;> first | exact False.elim h | skip
  case int.int i j =>
    obtain rfl : x = .int i := r1; obtain rfl : y = .int j := r2
    exact op_ge pins s σ _ _ _ v u Q I rx ry ⟨i, j, rfl, rfl, k.here ok h rfl⟩
theorem rp_non {K : PySem.W.Frag} {w : Wd} {d : D} {v : V} (r : Rp K w d v) : decide (v = .non) = isNon d := by
  cases d with
  | non => obtain rfl : v = .non := r; rfl
  | bl b => obtain rfl : v = .bl b := r; rfl
  | int b => obtain rfl : v = .int b := r; rfl
  | str b => obtain rfl : v = .str b := r; rfl
  | ref b => obtain rfl : v = .ref b := r; rfl
  | ty b => obtain rfl : v = .ty b := r; rfl
  | lst t b => obtain ⟨_, _, rfl, _⟩ := r; rfl
  | tup b => obtain ⟨_, _, rfl, _⟩ := r; rfl
  | dct b => obtain ⟨_, rfl, _⟩ := r; rfl
  | obj C b => obtain ⟨_, _, _, rfl, _⟩ := r; rfl
  | scr b => obtain ⟨_, rfl, _⟩ := r; rfl
  | exc C b => obtain ⟨_, _, _, rfl, _⟩ := r; rfl
  | cls b => obtain rfl : v = .ref _ := r; rfl
theorem opD_is : OpD X (compareOp .Is) isND := by
  intro pins s σ H x y v u Q I rx ry ⟨w, dx, dy, Q', hH, ok, r1, r2, h, k⟩
  subst hH
  cases dy <;> first | exact False.elim h | skip
  case non =>
    obtain rfl : y = .non := r2
    exact op_isN pins s σ _ _ _ v u Q I rx ry ⟨rfl, by rw [rp_non r1]; exact k.here ok h rfl⟩
theorem opD_isnot : OpD X (compareOp .IsNot) notND := by
  intro pins s σ H x y v u Q I rx ry ⟨w, dx, dy, Q', hH, ok, r1, r2, h, k⟩
  subst hH
  cases dy <;> first | exact False.elim h | skip
  case non =>
    obtain rfl : y = .non := r2
    exact op_notN pins s σ _ _ _ v u Q I rx ry ⟨rfl, by rw [rp_non r1]; exact k.here ok h rfl⟩

/-! ### ==, in -/
theorem eq_flat {X : Cx} (hu : X.A.units + 64 < cLine) : OpR X (compareOp .Eq) (liftO X.K eqD) := by
  intro pins s σ H x y v u Q I rx ry ⟨w, dx, dy, Q', hH, ok, r1, r2, h, k⟩
  subst hH
  have gen : pyN 30 dx = true → pyN 30 dy = true → wpAny (model X.prog X.w) X.A (compareOp .Eq v u) (EP X pins σ Q) X.xe s := fun h1 h2 => by
    obtain ⟨a1, a2⟩ := shaped_of h1 r1
    obtain ⟨b1, b2⟩ := shaped_of h2 r2
    exact op_eqD hu pins s σ _ _ _ v u Q I rx ry ⟨_, _, a1, b1, a2, b2, k.here ok h.2 rfl⟩
  have fl : scal x y = true → decide (x = y) = eqB dx dy → wpAny (model X.prog X.w) X.A (compareOp .Eq v u) (EP X pins σ Q) X.xe s := fun h1 h2 =>
    op_eq pins s σ _ _ _ v u Q I rx ry ⟨h1, by rw [h2]; exact k.here ok h.2 rfl⟩
  have h1 := h.1
  rw [eqOk, Bool.or_eq_true, Bool.and_eq_true] at h1
  rcases h1 with h1 | h1
  rotate_left
  · exact gen h1.1 h1.2
  cases dx <;> cases dy <;> first
    | exact (Bool.noConfusion (show false = true from h1))
    | (obtain rfl := (show x = _ from r1); obtain rfl := (show y = _ from r2); exact fl rfl rfl)
    | (obtain rfl := (show x = _ from r1); obtain rfl := (show y = _ from r2); exact fl rfl (by
        rename_i a b
        show decide (V.str a = V.str b) = (a == b)
        by_cases e : a = b
        · subst e; simp
        · rw [decide_eq_false (by intro z; exact e (V.str.inj z))]; simp [e]))
theorem ne_flat {X : Cx} (hu : X.A.units + 64 < cLine) : OpR X (compareOp .NotEq) (liftO X.K neD) := by
  intro pins s σ H x y v u Q I rx ry ⟨w, dx, dy, Q', hH, ok, r1, r2, h, k⟩
  subst hH
  have gen : pyN 30 dx = true → pyN 30 dy = true → wpAny (model X.prog X.w) X.A (compareOp .NotEq v u) (EP X pins σ Q) X.xe s := fun h1 h2 => by
    obtain ⟨a1, a2⟩ := shaped_of h1 r1
    obtain ⟨b1, b2⟩ := shaped_of h2 r2
    exact op_neD hu pins s σ _ _ _ v u Q I rx ry ⟨_, _, a1, b1, a2, b2, k.here ok h.2 rfl⟩
  have fl : scal x y = true → decide (x = y) = eqB dx dy → wpAny (model X.prog X.w) X.A (compareOp .NotEq v u) (EP X pins σ Q) X.xe s := fun h1 h2 =>
    op_ne pins s σ _ _ _ v u Q I rx ry ⟨h1, by rw [h2]; exact k.here ok h.2 rfl⟩
  have h1 := h.1
  rw [eqOk, Bool.or_eq_true, Bool.and_eq_true] at h1
  rcases h1 with h1 | h1
  rotate_left
  · exact gen h1.1 h1.2
  cases dx <;> cases dy <;> first
    | exact (Bool.noConfusion (show false = true from h1))
    | (obtain rfl := (show x = _ from r1); obtain rfl := (show y = _ from r2); exact fl rfl rfl)
    | (obtain rfl := (show x = _ from r1); obtain rfl := (show y = _ from r2); exact fl rfl (by
        rename_i a b
        show decide (V.str a = V.str b) = (a == b)
        by_cases e : a = b
        · subst e; simp
        · rw [decide_eq_false (by intro z; exact e (V.str.inj z))]; simp [e]))
theorem flat_v {K : PySem.W.Frag} {w : Wd} {d : D} {v : V} (h : flatD d = true) (r : Rp K w d v) : flatV v = true := by
  cases d <;> first | (obtain rfl := (show v = _ from r); rfl) | exact (Bool.noConfusion (show false = true from h))
theorem flat_vs {K : PySem.W.Frag} {w : Wd} : ∀ {ds : List D} {vs : List V}, ds.all flatD = true → RpL K w ds vs → vs.all flatV = true
  | [], vs, h, r => by obtain rfl : vs = [] := r; rfl
  | d :: ds, vs, h, r => by
    obtain ⟨x, q, rfl, r1, r2⟩ := r
    rw [List.all_cons, Bool.and_eq_true] at h
    rw [List.all_cons, flat_v h.1 r1, flat_vs h.2 r2]; rfl
theorem eqV_eqB {K : PySem.W.Frag} {w : Wd} {d e : D} {v u : V} (h : flatD d = true) (h' : flatD e = true) (r : Rp K w d v) (r' : Rp K w e u) : eqV v u = eqB d e := by
  cases d <;> cases e <;> first | (obtain rfl := (show v = _ from r); obtain rfl := (show u = _ from r'); rfl) | exact (Bool.noConfusion (show false = true from h)) | exact (Bool.noConfusion (show false = true from h'))
theorem inV_inB {K : PySem.W.Frag} {w : Wd} {d : D} {v : V} (h : flatD d = true) (r : Rp K w d v) : ∀ {ds : List D} {vs : List V}, ds.all flatD = true → RpL K w ds vs → inV v vs = inB d ds
  | [], vs, h, r => by obtain rfl : vs = [] := r; rfl
  | e :: ds, vs, h', r' => by
    obtain ⟨x, q, rfl, r1, r2⟩ := r'
    rw [List.all_cons, Bool.and_eq_true] at h'
    have ih := inV_inB h r h'.2 r2
    unfold inV inB at ih ⊢
    rw [List.any_cons, List.any_cons, eqV_eqB h'.1 h r1 r, ih]
theorem opD_in : OpD X (compareOp .In) inD := by
  intro pins s σ H x y v u Q I rx ry ⟨w, dx, dy, Q', hH, ok, r1, r2, h, k⟩
  subst hH
  have hs : ∀ ys, (∃ p xs, y = .ref p ∧ (SqL X.K w.H p xs ∨ SqT X.K w.H p xs) ∧ RpL X.K w ys xs) → (flatD dx = true ∧ ys.all flatD = true) ∧ Q' (.bl (inB dx ys)) w.M → wpAny (model X.prog X.w) X.A (compareOp .In v u) (EP X pins σ Q) X.xe s := fun ys ⟨p, xs, e, l, s1⟩ h =>
    op_in_seq pins s σ _ _ _ v u Q I rx ry ⟨p, xs, e, l, flat_v h.1.1 r1, flat_vs h.1.2 s1, by
      show Q (.bl (inV x xs)) w.H
      rw [inV_inB h.1.1 r1 h.1.2 s1]; exact k.here ok h.2 rfl⟩
  cases dy with
  | lst t ys => obtain ⟨p, xs, rfl, l, s1⟩ := r2; exact hs ys ⟨p, xs, rfl, .inl l.sq, s1⟩ (by cases dx <;> exact h)
  | tup ys => obtain ⟨p, xs, rfl, l, s1⟩ := r2; exact hs ys ⟨p, xs, rfl, .inr l.sq, s1⟩ (by cases dx <;> exact h)
  | str b =>
    cases dx with
    | str a =>
      obtain rfl : x = .str a := r1; obtain rfl : y = .str b := r2
      exact op_in_str pins s σ _ _ _ v u Q I rx ry ⟨a, b, rfl, rfl, k.here ok h rfl⟩
    | _ => exact False.elim h
  | _ => cases dx <;> exact False.elim h
theorem opD_nin : OpD X (compareOp .NotIn) ninD := by
  intro pins s σ H x y v u Q I rx ry ⟨w, dx, dy, Q', hH, ok, r1, r2, h, k⟩
  subst hH
  have hs : ∀ ys, (∃ p xs, y = .ref p ∧ (SqL X.K w.H p xs ∨ SqT X.K w.H p xs) ∧ RpL X.K w ys xs) → (flatD dx = true ∧ ys.all flatD = true) ∧ Q' (.bl (!inB dx ys)) w.M → wpAny (model X.prog X.w) X.A (compareOp .NotIn v u) (EP X pins σ Q) X.xe s := fun ys ⟨p, xs, e, l, s1⟩ h =>
    op_notIn_seq pins s σ _ _ _ v u Q I rx ry ⟨p, xs, e, l, flat_v h.1.1 r1, flat_vs h.1.2 s1, by
      show Q (.bl (!inV x xs)) w.H
      rw [inV_inB h.1.1 r1 h.1.2 s1]; exact k.here ok h.2 rfl⟩
  cases dy with
  | lst t ys => obtain ⟨p, xs, rfl, l, s1⟩ := r2; exact hs ys ⟨p, xs, rfl, .inl l.sq, s1⟩ (by cases dx <;> exact h)
  | tup ys => obtain ⟨p, xs, rfl, l, s1⟩ := r2; exact hs ys ⟨p, xs, rfl, .inr l.sq, s1⟩ (by cases dx <;> exact h)
  | str b =>
    cases dx with
    | str a =>
      obtain rfl : x = .str a := r1; obtain rfl : y = .str b := r2
      exact op_notin_str pins s σ _ _ _ v u Q I rx ry ⟨a, b, rfl, rfl, k.here ok h rfl⟩
    | _ => exact False.elim h
  | _ => cases dx <;> exact False.elim h

/-! ### chains -/
variable {c : Wd} {a b e : Expr} {ta tb te : DE} {pos : Pos} {g g' : D2}
@[simp] def dChain (g g' : D2) (ta tb tc : DE) : DE := fun ρ M Q => ta ρ M fun x M1 => tb ρ M1 fun y M2 => g x y M2 fun z M3 => match z with | .bl k => if k = true then (tc ρ M3 fun w M4 => g' y w M4 Q) else Q (.bl false) M3 | _ => False
theorem chain_imp {tc : DE} {ρ : DEnv} {w : Wd} {Q' : DK} {K : PySem.W.Frag} {σ : St} {H : Hp} {Q : VK} (hH : w.H = H) (a : At K c w ρ σ) (h : dChain g g' ta tb tc ρ w.M Q') (k : Wv K w Q' Q) : tChain (liftO K g) (liftO K g') (lift K c ta) (lift K c tb) (lift K c tc) σ H Q :=
  ⟨ρ, w, _, hH, a, h, fun d w1 v q b1 r => ⟨ρ, w1, _, rfl, a.next b1, q, fun e w2 v2 q2 b2 r2 => ⟨w2, d, e, _, rfl, b2.ok, r.mono b2.kp, r2, q2, fun z w3 vz q3 b3 r3 => by
    cases z with
    | bl y =>
      obtain rfl : vz = .bl y := r3
      refine ⟨y, rfl, ?_⟩
      cases y with
      | true => exact iteT ⟨ρ, w3, _, rfl, a.next ((b1.trans b2).trans b3), q3, fun d4 w4 v4 q4 b4 r4 => ⟨w4, e, d4, Q', rfl, b4.ok, (r2.mono b3.kp).mono b4.kp, r4, q4, k.back (((b1.trans b2).trans b3).trans b4)⟩⟩
      | false => exact iteF (k _ w3 _ q3 ((b1.trans b2).trans b3) rfl)
    | _ => exact q3.elim⟩⟩⟩
theorem pd_chain {op op' : CmpOp} {c' : Expr} {tc : DE} (ho : OpD X (compareOp op) g) (ho' : OpD X (compareOp op') g') (ha : PD c X a ta) (hb : PD c X b tb) (hc : PD c X c' tc)
    (hm : lastMarks [op, op'] [b, c'] = false := by with_unfolding_all rfl) : PD c X (.Compare a [op, op'] [b, c'] pos) (dChain g g' ta tb tc) := PE_imp (pe_chain ho ho' ha hb hc hm) fun _ _ _ ⟨_, _, _, hH, a, h, k⟩ => chain_imp hH a h k
theorem pdt_chain {op op' : CmpOp} {c' : Expr} {tc : DE} (ho : OpD X (compareOp op) g) (ho' : OpD X (compareOp op') g') (ha : PD c X a ta) (hb : PD c X b tb) (hc : PD c X c' tc)
    (hm : lastMarks [op, op'] [b, c'] = false := by with_unfolding_all rfl) : PDT c X (.Compare a [op, op'] [b, c'] pos) (dB (dChain g g' ta tb tc)) := PT_imp (pt_chain ho ho' ha hb hc hm) fun _ _ _ ⟨_, _, _, hH, a, h, k⟩ => chain_imp hH a h (Wv.isB k)

/-! ### subscripts, slices -/
@[simp] def ixD : D2 := fun x y M Q => match y with
  | .int i => match x with
    | .lst _ ds => (match atI ds i with | some d => Q d M | none => False)
    | .tup ds => (match atI ds i with | some d => Q d M | none => False)
    | .str z => z.length ≤ 100000 ∧ (match atI z.cps.toList i with | some c => Q (.str ⟨#[c]⟩) M | none => False)
    | .ref a => (match M a with | some (.lst ds) => (match atI ds i with | some d => Q d M | none => False) | _ => False)
    | _ => False
  | _ => False
theorem atI_rp {K : PySem.W.Frag} {w : Wd} {ds : List D} {vs : List V} {i : Int} {d : D} (r : RpL K w ds vs) (h : atI ds i = some d) : ∃ v, atI vs i = some v ∧ Rp K w d v := by
  unfold atI at h ⊢
  rw [r.length]
  cases e : ixN ds.length i with
  | none => rw [e] at h; cases h
  | some j =>
    rw [e] at h
    obtain ⟨v, h1, h2⟩ := r.at (i := j) (d := d) h
    exact ⟨v, h1, h2⟩
theorem ixR_D : IxR X (liftO X.K ixD) := by
  intro value slice pins s σ H x y v u Q I rx ry ⟨w, dx, dy, Q', hH, ok, r1, r2, h, k⟩ hs
  subst hH
  cases dy with
  | int i =>
    obtain rfl : y = .int i := r2
    cases dx with
    | lst t ds =>
      obtain ⟨p, xs, rfl, l, s1⟩ := r1
      cases e : atI ds i with
      | none => simp only [ixD, e] at h
      | some d =>
        simp only [ixD, e] at h
        obtain ⟨z, h1, h2⟩ := atI_rp s1 e
        exact ix_list value slice pins s σ _ _ _ v u Q I rx ry ⟨p, xs, i, z, rfl, rfl, l.sq, h1, k.here ok h h2⟩ hs
    | tup ds =>
      obtain ⟨p, xs, rfl, l, s1⟩ := r1
      cases e : atI ds i with
      | none => simp only [ixD, e] at h
      | some d =>
        simp only [ixD, e] at h
        obtain ⟨z, h1, h2⟩ := atI_rp s1 e
        exact ix_tup value slice pins s σ _ _ _ v u Q I rx ry ⟨p, xs, i, z, rfl, rfl, l.sq, h1, k.here ok h h2⟩ hs
    | str z =>
      obtain rfl : x = .str z := r1
      cases e : atI z.cps.toList i with
      | none => simp only [ixD, e] at h; exact h.2.elim
      | some d =>
        simp only [ixD, e] at h
        exact ix_str value slice pins s σ _ _ _ v u Q I rx ry ⟨z, i, d, rfl, rfl, sz h.1, e, k.here ok h.2 rfl⟩ hs
    | ref a =>
      obtain rfl : x = .ref a := r1
      cases em : w.M a with
      | none => simp only [ixD, em] at h
      | some m =>
        cases m with
        | lst ds =>
          simp only [ixD, em] at h
          cases e : atI ds i with
          | none => simp only [e] at h
          | some d =>
            simp only [e] at h
            obtain ⟨xs, hx, s1⟩ := (show ∃ xs, w.H a = some (.lst xs) ∧ RpL X.K w ds xs from ok.mo a _ em)
            obtain ⟨z, h1, h2⟩ := atI_rp s1 e
            exact ix_list value slice pins s σ _ _ _ v u Q I rx ry ⟨a, xs, i, z, rfl, rfl, SqL.of hx, h1, k.here ok h h2⟩ hs
        | _ => simp only [ixD, em] at h
    | _ => exact False.elim h
  | _ => exact False.elim h
theorem pd_ix (ha : PD c X a ta) (hb : PD c X b tb) (hs : PlainIx b := by exact fun _ _ => rfl) : PD c X (.Subscript a b pos) (dOp ixD ta tb) := PE_imp (pe_ix ixR_D ha hb hs) fun _ _ _ ⟨_, _, _, hH, a, h, k⟩ => op_imp hH a h k
def cut {α : Type} (xs : List α) (lo hi : Option Int) : List α := (xs.drop (HT.sIx xs.length 0 lo)).take (HT.sIx xs.length xs.length hi - HT.sIx xs.length 0 lo)
theorem cut_rp {K : PySem.W.Frag} {w : Wd} {ds : List D} {vs : List V} (lo hi : Option Int) (r : RpL K w ds vs) : RpL K w (cut ds lo hi) (cutV vs lo hi) := by
  unfold cut cutV
  rw [r.length]
  exact (r.drop _).take _
theorem cut_len {α : Type} (xs : List α) (lo hi : Option Int) : (cut xs lo hi).length ≤ xs.length := by
  unfold cut
  rw [List.length_take, List.length_drop]; omega
abbrev DO := DEnv → Mu → (Option Int → Mu → Prop) → Prop
def liftOp (K : PySem.W.Frag) (c : Wd) (t : DO) : TO := fun σ H Q => ∃ ρ w Q', w.H = H ∧ At K c w ρ σ ∧ t ρ w.M Q' ∧ ∀ o w', Q' o w'.M → Bh K w w' → Q o w'.H
abbrev PDO (c : Wd) (X : Cx) (e : Option Expr) (t : DO) : Prop := PO X e (liftOp X.K c t)
theorem PO_imp {e : Option Expr} {t t' : TO} (h : PO X e t) (i : ∀ σ H Q, t' σ H Q → t σ H Q) : PO X e t' := ⟨fun pins s σ H Q I q => h.run pins s σ H Q I (i σ H Q q)⟩
@[simp] def dNoPart : DO := fun _ M Q => Q none M
@[simp] def dPart (t : DE) : DO := fun ρ M Q => t ρ M fun d M1 => match d with | .int i => Q (some i) M1 | _ => False
theorem pdo_none : PDO c X none dNoPart := PO_imp po_none fun σ H Q ⟨ρ, w, Q', hH, a, h, k⟩ => hH ▸ k none w h (Bh.refl a.ok)
theorem pdo_some (h : PD c X e te) : PDO c X (some e) (dPart te) := PO_imp (po_some h) fun σ H Q ⟨ρ, w, Q', hH, a, h, k⟩ => ⟨ρ, w, _, hH, a, h, fun d w1 v q b1 r => by
  cases d with
  | int i => obtain rfl : v = .int i := r; exact ⟨i, rfl, k _ w1 q b1⟩
  | _ => exact q.elim⟩
@[simp] def slD : D → Option Int → Option Int → Mu → DK → Prop := fun x lo hi M Q => match x with
  | .lst _ ds => Q (.lst 0 (cut ds lo hi)) M
  | .tup ds => Q (.tup (cut ds lo hi)) M
  | .str z => z.length ≤ 100000 ∧ Q (.str (cutS z lo hi)) M
  | .scr ns => Q (.lst 0 (cut (ns.map D.int) lo hi)) M
  | .ref a => (match M a with | some (.lst ds) => Q (.lst 0 (cut ds lo hi)) M | _ => False)
  | _ => False
theorem ints_rp {K : PySem.W.Frag} {w : Wd} : ∀ ns : List Int, RpL K w (ns.map D.int) (ns.map V.int)
  | [] => rfl
  | n :: ns => ⟨.int n, ns.map V.int, rfl, rfl, ints_rp ns⟩
def liftSl (K : PySem.W.Frag) : V → Option Int → Option Int → Hp → VK → Prop := fun x lo hi H Q => ∃ w dx Q', w.H = H ∧ Ok K w ∧ Rp K w dx x ∧ slD dx lo hi w.M Q' ∧ Wv K w Q' Q
theorem slR_D : SlR X (liftSl X.K) := by
  intro pins s σ H x v vl vu lo hi sl Q I rx hs pl pu ⟨w, dx, Q', hH, ok, r1, h, k⟩
  subst hH
  cases dx with
  | lst t ds =>
    obtain ⟨p, xs, rfl, l, s1⟩ := r1
    exact sl_list pins s σ _ _ v vl vu lo hi sl Q I rx hs pl pu ⟨p, xs, rfl, l.sq, fun q hq => k.new ok hq h (rp_lst ok hq (cut_rp lo hi s1))⟩
  | tup ds =>
    obtain ⟨p, xs, rfl, l, s1⟩ := r1
    refine sl_tupA pins s σ _ _ v vl vu lo hi sl Q I rx hs pl pu ⟨p, xs, rfl, l.sq, fun e => ?_, fun _ q hq => k.new ok hq h (rp_tup ok hq (cut_rp lo hi s1))⟩
    have hl := s1.length
    refine k.here ok h (show Rp X.K w (.tup (cut ds lo hi)) (.ref p) from ?_)
    have : cut ds lo hi = ds := by
      unfold cut
      rw [← hl, e.1, e.2, List.drop_zero, hl, Nat.sub_zero, List.take_length]
    rw [this]
    exact ⟨p, xs, rfl, l, s1⟩
  | str z =>
    obtain rfl : x = .str z := r1
    exact sl_str pins s σ _ _ v vl vu lo hi sl Q I rx hs pl pu ⟨z, rfl, sz h.1, k.here ok h.2 rfl⟩
  | scr ns =>
    obtain ⟨ad, rfl, h1⟩ := r1
    have hq : SqL X.K w.H ad (ns.map V.int) := h1.elim (fun z => .inl z.2) fun z => z w.H
    exact sl_list pins s σ _ _ v vl vu lo hi sl Q I rx hs pl pu ⟨ad, ns.map V.int, rfl, hq, fun q hq => k.new ok hq h (rp_lst ok hq (cut_rp lo hi (ints_rp ns)))⟩
  | ref a =>
    obtain rfl : x = .ref a := r1
    cases em : w.M a with
    | none => simp only [slD, em] at h
    | some m =>
      cases m with
      | lst ds =>
        simp only [slD, em] at h
        obtain ⟨xs, hx, s1⟩ := (show ∃ xs, w.H a = some (.lst xs) ∧ RpL X.K w ds xs from ok.mo a _ em)
        exact sl_list pins s σ _ _ v vl vu lo hi sl Q I rx hs pl pu ⟨a, xs, rfl, SqL.of hx, fun q hq => k.new ok hq h (rp_lst ok hq (cut_rp lo hi s1))⟩
      | _ => simp only [slD, em] at h
  | _ => exact False.elim h
@[simp] def dSl (te : DE) (tl th : DO) : DE := fun ρ M Q => te ρ M fun x M1 => tl ρ M1 fun l M2 => th ρ M2 fun u M3 => slD x l u M3 Q
theorem pd_slice {lo hi : Option Expr} {tl th : DO} {p2 : Pos} (he : PD c X e te) (hl : PDO c X lo tl) (hu : PDO c X hi th) : PD c X (.Subscript e (.Slice lo hi none p2) pos) (dSl te tl th) :=
  PE_imp (pe_slice slR_D he hl hu) fun σ H Q ⟨ρ, w, Q', hH, a, h, k⟩ => ⟨ρ, w, _, hH, a, h, fun d w1 v q b1 r => ⟨ρ, w1, _, rfl, a.next b1, q, fun l w2 q2 b2 => ⟨ρ, w2, _, rfl, (a.next b1).next b2, q2, fun u w3 q3 b3 =>
    ⟨w3, d, Q', rfl, b3.ok, (r.mono b2.kp).mono b3.kp, q3, k.back ((b1.trans b2).trans b3)⟩⟩⟩⟩
end
end DL
/-! The data layer, part d: statements, loops, comprehensions, defs. -/
namespace DL
open PySem L2

structure DEnds where
  nx : DEnv → Mu → Prop
  rt : DK
  bk : DEnv → Mu → Prop := fun _ _ => False
  ct : DEnv → Mu → Prop := fun _ _ => False
abbrev DS := DEnds → DEnv → Mu → Prop
structure WE (K : PySem.W.Frag) (c w : Wd) (D' : DEnds) (D : Ends) : Prop where
  nx : ∀ ρ' w' σ', D'.nx ρ' w'.M → Bh K w w' → At K c w' ρ' σ' → D.nx σ' w'.H
  rt : Wv K w D'.rt D.rt
  bk : ∀ ρ' w' σ', D'.bk ρ' w'.M → Bh K w w' → At K c w' ρ' σ' → D.bk σ' w'.H
  ct : ∀ ρ' w' σ', D'.ct ρ' w'.M → Bh K w w' → At K c w' ρ' σ' → D.ct σ' w'.H
theorem WE.back {K : PySem.W.Frag} {c w w1 : Wd} {D' : DEnds} {D : Ends} (k : WE K c w D' D) (b : Bh K w w1) : WE K c w1 D' D where
  nx := fun ρ' w' σ' q b' a => k.nx ρ' w' σ' q (b.trans b') a
  rt := k.rt.back b
  bk := fun ρ' w' σ' q b' a => k.bk ρ' w' σ' q (b.trans b') a
  ct := fun ρ' w' σ' q b' a => k.ct ρ' w' σ' q (b.trans b') a
def liftS (K : PySem.W.Frag) (c : Wd) (t : DS) : TS := fun D σ H => ∃ ρ w D', w.H = H ∧ At K c w ρ σ ∧ t D' ρ w.M ∧ WE K c w D' D
abbrev PDS (c : Wd) (X : Cx) (st : Stmt) (t : DS) : Prop := PS X st (liftS X.K c t)
abbrev PDSs (c : Wd) (X : Cx) (st : List Stmt) (t : DS) : Prop := PSs X st (liftS X.K c t)
theorem PS_imp {X : Cx} {st : Stmt} {t t' : TS} (h : PS X st t) (i : ∀ D σ H, t' D σ H → t D σ H) : PS X st t' := ⟨fun pins s σ H D I q => h.run pins s σ H D I (i D σ H q)⟩
theorem PSs_imp {X : Cx} {st : List Stmt} {t t' : TS} (h : PSs X st t) (i : ∀ D σ H, t' D σ H → t D σ H) : PSs X st t' := ⟨fun pins s σ H D I q => h.run pins s σ H D I (i D σ H q)⟩
section
variable {X : Cx} {c : Wd} {st : Stmt} {rest body : List Stmt} {t u : DS} {e : Expr} {te : DE} {pos : Pos}
@[simp] def dNext : DS := fun D ρ M => D.nx ρ M
@[simp] def dSeq (t u : DS) : DS := fun D ρ M => t { nx := u D, rt := D.rt, bk := D.bk, ct := D.ct } ρ M
theorem pdss_nil : PDSs c X [] dNext := PSs_imp pss_nil fun D σ H ⟨ρ, w, D', hH, a, h, k⟩ => hH ▸ k.nx ρ w σ h (Bh.refl a.ok) a
theorem pdss_cons (h1 : PDS c X st t) (h2 : PDSs c X rest u) : PDSs c X (st :: rest) (dSeq t u) := PSs_imp (pss_cons h1 h2) fun D σ H ⟨ρ, w, D', hH, a, h, k⟩ =>
  ⟨ρ, w, _, hH, a, h, { nx := fun ρ' w' σ' q b a' => ⟨ρ', w', D', rfl, a', q, k.back b⟩, rt := k.rt, bk := k.bk, ct := k.ct }⟩
theorem pdss_one (h1 : PDS c X st t) : PDSs c X [st] t := PSs_imp (pss_one h1) fun D σ H h => h
@[simp] def dRet (te : DE) : DS := fun D ρ M => te ρ M D.rt
theorem pds_ret (he : PD c X e te) : PDS c X (.Return (some e) pos) (dRet te) := PS_imp (ps_ret he) fun D σ H ⟨ρ, w, D', hH, a, h, k⟩ => ⟨ρ, w, D'.rt, hH, a, h, k.rt⟩
@[simp] def dRetN : DS := fun D ρ M => D.rt .non M
theorem pds_retN : PDS c X (.Return none pos) dRetN := PS_imp ps_retN fun D σ H ⟨ρ, w, D', hH, a, h, k⟩ => hH ▸ k.rt.here a.ok h rfl
@[simp] def dDrop (te : DE) : DS := fun D ρ M => te ρ M fun _ M1 => D.nx ρ M1
theorem pds_expr (he : PD c X e te) (hs : swapsWith e none pos.line X.env = pure false := by rfl) : PDS c X (.Expr e pos) (dDrop te) := PS_imp (ps_expr he hs) fun D σ H ⟨ρ, w, D', hH, a, h, k⟩ =>
  ⟨ρ, w, _, hH, a, h, fun d w' v q b r => k.nx ρ w' σ q b (a.next b)⟩
theorem pds_pass : PDS c X (.Pass pos) dNext := PS_imp ps_pass fun D σ H ⟨ρ, w, D', hH, a, h, k⟩ => hH ▸ k.nx ρ w σ h (Bh.refl a.ok) a
@[simp] def dBrk : DS := fun D ρ M => D.bk ρ M
@[simp] def dCnt : DS := fun D ρ M => D.ct ρ M
theorem pds_break : PDS c X (.Break pos) dBrk := PS_imp ps_break fun D σ H ⟨ρ, w, D', hH, a, h, k⟩ => hH ▸ k.bk ρ w σ h (Bh.refl a.ok) a
theorem pds_continue : PDS c X (.Continue pos) dCnt := PS_imp ps_continue fun D σ H ⟨ρ, w, D', hH, a, h, k⟩ => hH ▸ k.ct ρ w σ h (Bh.refl a.ok) a
@[simp] def dIfS (t : DT) (u v : DS) : DS := fun D ρ M => t ρ M fun k M1 => if k = true then u D ρ M1 else v D ρ M1
theorem pds_if {tc : Expr} {p q : List Stmt} {tt : DT} (hc : PDT c X tc tt) (ha : PDSs c X p t) (hb : PDSs c X q u) : PDS c X (.If tc p q pos) (dIfS tt t u) := PS_imp (ps_if hc ha hb) fun D σ H ⟨ρ, w, D', hH, a, h, k⟩ =>
  ⟨ρ, w, _, hH, a, h, fun z w1 q b1 => by
    cases z with
    | true => exact iteT ⟨ρ, w1, D', rfl, a.next b1, q, k.back b1⟩
    | false => exact iteF ⟨ρ, w1, D', rfl, a.next b1, q, k.back b1⟩⟩

/-! ### targets -/
abbrev DG := D → DEnv → Mu → (DEnv → Mu → Prop) → Prop
/-- the same slots but for some -/
def Ag (vs : List Nat) (σ σ' : St) : Prop := σ'.length = σ.length ∧ ∀ i : Nat, i ∉ vs → σ'[i]? = σ[i]?
theorem Ag.refl (vs : List Nat) (σ : St) : Ag vs σ σ := ⟨rfl, fun _ _ => rfl⟩
theorem Ag.trans {vs : List Nat} {σ σ1 σ2 : St} (a : Ag vs σ σ1) (b : Ag vs σ1 σ2) : Ag vs σ σ2 := ⟨b.1.trans a.1, fun i h => (b.2 i h).trans (a.2 i h)⟩
theorem Ag.set {vs : List Nat} {σ : St} {i : Nat} {o : Option V} (h : i ∈ vs) : Ag vs σ (σ.set i o) := ⟨List.length_set, fun j hj => List.getElem?_set_ne (fun (e : i = j) => hj (by rw [← e]; exact h))⟩
theorem wipe_ag {vs : List Nat} {σ σ' : St} (h : Ag vs σ σ') : wipe σ' vs = wipe σ vs := by
  apply List.ext_getElem?
  intro i
  have hl := h.1
  by_cases hi : i ∈ vs
  · have hv : ∀ (τ : St), ∀ us : List Nat, i ∈ us → i < τ.length → (wipe τ us)[i]? = some none := by
      intro τ us
      induction us with
      | nil => intro z; cases z
      | cons u us ih =>
        intro z hlt
        unfold wipe
        by_cases e : u = i
        · subst e
          rw [List.getElem?_set_self (by rw [wipe_length]; exact hlt)]
        · rw [List.getElem?_set_ne e]
          rcases List.mem_cons.mp z with z | z
          · exact absurd z.symm e
          · exact ih z hlt
    by_cases hlt : i < σ.length
    · rw [hv σ' vs hi (by omega), hv σ vs hi hlt]
    · rw [List.getElem?_eq_none (by rw [wipe_length]; omega), List.getElem?_eq_none (by rw [wipe_length]; omega)]
  · rw [wipe_out hi, wipe_out hi, h.2 i hi]
theorem wipe_wipe {vs : List Nat} {σ : St} : Ag vs σ (wipe σ vs) := ⟨wipe_length σ vs, fun i hi => wipe_out hi⟩
def liftG (K : PySem.W.Frag) (c : Wd) (vs : List Nat) (g : DG) : TG := fun v σ H Q => ∃ d ρ w Q', w.H = H ∧ At K c w ρ σ ∧ Rp K w d v ∧ g d ρ w.M Q' ∧ ∀ ρ' w' σ', Q' ρ' w'.M → Bh K w w' → At K c w' ρ' σ' → Ag vs σ σ' → Q σ' w'.H
abbrev PDG (c : Wd) (X : Cx) (vs : List Nat) (e : Expr) (g : DG) : Prop := PG X e (liftG X.K c vs g)
theorem PG_imp {e : Expr} {g g' : TG} (h : PG X e g) (i : ∀ v σ H Q, g' v σ H Q → g v σ H Q) : PG X e g' := ⟨fun pins s σ H v u Q I r q => h.run pins s σ H v u Q I r (i _ _ _ _ q)⟩
@[simp] def gNm (i : Nat) : DG := fun d ρ M Q => Q (ρ.set i (some d)) M
variable {vs : List Nat}
theorem pdg_name {i : Nat} {x : Str} (hN : X.N.Nodup) (hi : X.N[i]? = some x := by rfl) (hx : Loc X.env.scope x := by first | exact Or.inl rfl | exact Or.inr rfl) (hf : X.fn x = true ∨ X.env.scope.names.lookup x = some .local := by first | exact .inl rfl | exact .inr rfl) (hvs : i ∈ vs := by simp) : PDG c X vs (.Name x pos) (gNm i) :=
  PG_imp (pg_name hN hi hx hf) fun v σ H Q ⟨d, ρ, w, Q', hH, a, r, h, k⟩ => hH ▸ k _ w _ h (Bh.refl a.ok) (a.set r) (Ag.set hvs)
abbrev DGs := List D → DEnv → Mu → (DEnv → Mu → Prop) → Prop
def liftGs (K : PySem.W.Frag) (c : Wd) (us : List Nat) (g : DGs) : TGs := fun vs σ H Q => ∃ ds ρ w Q', w.H = H ∧ At K c w ρ σ ∧ RpL K w ds vs ∧ g ds ρ w.M Q' ∧ ∀ ρ' w' σ', Q' ρ' w'.M → Bh K w w' → At K c w' ρ' σ' → Ag us σ σ' → Q σ' w'.H
abbrev PDGs (c : Wd) (X : Cx) (vs : List Nat) (es : List Expr) (g : DGs) : Prop := PGs X es (liftGs X.K c vs g)
theorem PGs_imp {es : List Expr} {g g' : TGs} (h : PGs X es g) (i : ∀ v σ H Q, g' v σ H Q → g v σ H Q) : PGs X es g' := ⟨fun pins s σ H v u Q I r q => h.run pins s σ H v u Q I r (i _ _ _ _ q)⟩
@[simp] def gsNil : DGs := fun ds ρ M Q => match ds with | [] => Q ρ M | _ => False
@[simp] def gsCons (g : DG) (k : DGs) : DGs := fun ds ρ M Q => match ds with | d :: r => g d ρ M (fun ρ' M' => k r ρ' M' Q) | [] => False
theorem pdgs_nil : PDGs c X vs [] gsNil := PGs_imp pgs_nil fun us σ H Q ⟨ds, ρ, w, Q', hH, a, r, h, k⟩ => by
  cases ds with
  | nil => exact ⟨r, hH ▸ k ρ w σ h (Bh.refl a.ok) a (Ag.refl _ _)⟩
  | cons d ds => exact h.elim
theorem pdgs_cons {es : List Expr} {g : DG} {gs : DGs} (h1 : PDG c X vs e g) (h2 : PDGs c X vs es gs) (hs : (assignEach (e :: es) X.env).map (·.2) = assign e X.env :: (assignEach es X.env).map (·.2) := by rfl) : PDGs c X vs (e :: es) (gsCons g gs) :=
  PGs_imp (pgs_cons h1 h2 hs) fun us σ H Q ⟨ds, ρ, w, Q', hH, a, r, h, k⟩ => by
  cases ds with
  | nil => exact h.elim
  | cons d ds =>
    obtain ⟨x, q, rfl, r1, r2⟩ := r
    exact ⟨x, q, rfl, d, ρ, w, _, hH, a, r1, h, fun ρ' w' σ' q' b a' g1 => ⟨ds, ρ', w', Q', rfl, a', r2.mono b.kp, q', fun ρ'' w'' σ'' q'' b' a'' g2 => k ρ'' w'' σ'' q'' (b.trans b') a'' (g1.trans g2)⟩⟩
@[simp] def gTp (g : DGs) (n : Nat) : DG := fun d ρ M Q => match d with | .tup ds => ds.length = n ∧ g ds ρ M Q | _ => False
theorem pdg_tup {es : List Expr} {k : Nat} {g : DGs} {n : Nat} (hc : X.calm = true) (h : PDGs c X vs es g) (hn : (assignEach es X.env).length = n := by rfl) (hst : (assignEach es X.env).findIdx? (·.1) = none := by rfl) : PDG c X vs (.Tuple es k pos) (gTp g n) :=
  PG_imp (pg_tup hc h hn hst) fun v σ H Q ⟨d, ρ, w, Q', hH, a, r, h, k⟩ => by
  cases d with
  | tup ds =>
    obtain ⟨p, xs, rfl, l, s1⟩ := r
    subst hH
    exact ⟨p, xs, rfl, l.sq, by rw [s1.length]; exact h.1, ds, ρ, w, Q', rfl, a, s1, h.2, k⟩
  | _ => exact h.elim
@[simp] def dAsg (te : DE) (g : DG) : DS := fun D ρ M => te ρ M fun d M1 => g d ρ M1 D.nx
theorem pds_asg {tg : Expr} {g : DG} (he : PD c X e te) (hg : PDG c X vs tg g) (hs : swapsWithSole [tg] e pos.line X.env = pure false := by rfl) (hw : swappedStores [tg] e X.env = pure none := by rfl) (h1 : (assignEach [tg] X.env).map (·.2) = [assign tg X.env] := by rfl) : PDS c X (.Assign [tg] e pos) (dAsg te g) :=
  PS_imp (ps_asg he hg hs hw h1) fun D σ H ⟨ρ, w, D', hH, a, h, k⟩ => ⟨ρ, w, _, hH, a, h, fun d w1 v q b r => ⟨d, ρ, w1, D'.nx, rfl, a.next b, r, q, fun ρ' w' σ' q' b' a' _ => k.nx ρ' w' σ' q' (b.trans b') a'⟩⟩
theorem pds_set {i : Nat} {x : Str} {pos' : Pos} (hN : X.N.Nodup) (he : PD c X e te) (hi : X.N[i]? = some x := by rfl) (hx : Loc X.env.scope x := by first | exact Or.inl rfl | exact Or.inr rfl) (hs : swapsWith e (some (.Name x pos')) pos.line X.env = pure false := by rfl) (hf : X.fn x = true ∨ X.env.scope.names.lookup x = some .local := by first | exact .inl rfl | exact .inr rfl) :
    PDS c X (.Assign [.Name x pos'] e pos) (dAsg te (gNm i)) :=
  PS_imp (ps_set hN hi hx he hs hf) fun D σ H ⟨ρ, w, D', hH, a, h, k⟩ => ⟨ρ, w, _, hH, a, h, fun d w1 v q b r => k.nx _ w1 _ q b ((a.next b).set r)⟩
/-- a, b = e1, e2 -/
@[simp] def dPar (i j : Nat) (ta : DA) : DS := fun D ρ M => ta ρ M fun ds M1 => match ds with | [d, e] => D.nx ((ρ.set i (some d)).set j (some e)) M1 | _ => False

/-! ### what is walked -/
abbrev DI := DEnv → Mu → (List D → Mu → Prop) → Prop
/-- J yields these data, one after another, while what is free stays -/
def IsIt (K : PySem.W.Frag) (w : Wd) (ds : List D) (J : It) : Prop := ∀ w', Kp w w' → Ok K w' →
  (∀ i d, ds[i]? = some d → J.go i w'.H ∧ ∀ x H'', J.yld i w'.H x H'' → Bh K w' (w'.at H'') ∧ Rp K (w'.at H'') d x) ∧ J.stop ds.length w'.H
def liftI (K : PySem.W.Frag) (c : Wd) (t : DI) : TI := fun σ H R => ∃ ρ w Q', w.H = H ∧ At K c w ρ σ ∧ t ρ w.M Q' ∧ ∀ ds w' J, Q' ds w'.M → Bh K w w' → IsIt K w' ds J → R J w'.H
abbrev PDI (c : Wd) (X : Cx) (tg iter : Expr) (t : DI) : Prop := PI X tg iter (liftI X.K c t)
theorem PI_imp {tg e : Expr} {t t' : TI} (h : PI X tg e t) (i : ∀ σ H Q, t' σ H Q → t σ H Q) : PI X tg e t' := ⟨fun pins s σ H Q I q => h.run pins s σ H Q I (i σ H Q q)⟩
theorem isIt_l {K : PySem.W.Frag} {w : Wd} {ds : List D} {t : Nat} {a : Addr} {xs : List V} (h : LsAt w t a xs) (r : RpL K w ds xs) : IsIt K w ds (Itl K a) := fun w' k ok => by
  have h' := k.lst h
  have r' := r.mono k
  have hl := r'.length
  refine ⟨fun i d e => ?_, ⟨xs, h'.sq, by omega⟩⟩
  obtain ⟨v, e1, r1⟩ := r'.at e
  refine ⟨⟨xs, v, h'.sq, e1⟩, fun x H'' y => ?_⟩
  obtain ⟨rfl, y⟩ := y
  have := y xs h'.sq
  rw [e1] at this
  cases this
  exact ⟨Bh.refl ok, r1⟩
theorem isIt_t {K : PySem.W.Frag} {w : Wd} {ds : List D} {a : Addr} {xs : List V} (h : TuAt K w a xs) (r : RpL K w ds xs) : IsIt K w ds (Itt K a) := fun w' k ok => by
  have h' := h.mono k
  have r' := r.mono k
  have hl := r'.length
  refine ⟨fun i d e => ?_, ⟨xs, h'.sq, by omega⟩⟩
  obtain ⟨v, e1, r1⟩ := r'.at e
  refine ⟨⟨xs, v, h'.sq, e1⟩, fun x H'' y => ?_⟩
  obtain ⟨rfl, y⟩ := y
  have := y xs h'.sq
  rw [e1] at this
  cases this
  exact ⟨Bh.refl ok, r1⟩
def signs (z : Str) : List D := z.cps.toList.map fun c => .str ⟨#[c]⟩
theorem isIt_s {K : PySem.W.Frag} {w : Wd} {z : Str} : IsIt K w (signs z) (Its z) := fun w' k ok => by
  refine ⟨fun i d e => ?_, by show z.cps.size ≤ (signs z).length; simp [signs]⟩
  unfold signs at e
  rw [List.getElem?_map] at e
  cases ec : z.cps.toList[i]? with
  | none => rw [ec] at e; cases e
  | some ch =>
    rw [ec] at e
    cases e
    have ha : z.cps[i]? = some ch := by simpa using ec
    refine ⟨?_, fun x H'' y => ?_⟩
    · exact (Array.getElem?_eq_some_iff.mp ha).1
    · obtain ⟨rfl, ch', h1, rfl⟩ := y
      rw [ha] at h1
      cases h1
      exact ⟨Bh.refl ok, rfl⟩
theorem isIt_r {K : PySem.W.Frag} {w : Wd} {lo : Int} {n : Nat} : IsIt K w ((List.range n).map fun (i : Nat) => .int (lo + i)) (Itr lo n) := fun w' k ok => by
  refine ⟨fun i d e => ?_, by show n ≤ _; simp⟩
  rw [List.getElem?_map] at e
  by_cases hi : i < n
  · rw [List.getElem?_range hi] at e
    cases e
    refine ⟨hi, fun x H'' y => ?_⟩
    obtain ⟨rfl, rfl⟩ := y
    exact ⟨Bh.refl ok, rfl⟩
  · rw [List.getElem?_eq_none (by simp; omega)] at e
    cases e
/-- a list, a tuple, a text: what is walked -/
@[simp] def dIt (te : DE) : DI := fun ρ M Q => te ρ M fun d M1 => match d with
  | .lst _ ds => Q ds M1
  | .tup ds => Q ds M1
  | .str z => Q (signs z) M1
  | _ => False
theorem pi_any {tg : Expr} {tl : TE} (hl : PE X e tl) : PI X tg e (fun σ H R => tl σ H fun x H1 => (∃ a, x = .ref a ∧ (∃ xs, SqL X.K H1 a xs) ∧ R (Itl X.K a) H1) ∨ (∃ a, x = .ref a ∧ (∃ xs, SqT X.K H1 a xs) ∧ R (Itt X.K a) H1) ∨ ∃ z, x = .str z ∧ R (Its z) H1) := by
  refine ⟨fun pins s σ H R I h => ?_⟩
  refine thn (hl.run pins s σ H _ I h) fun v s1 ⟨x, H1, I1, r1, q1⟩ => ?_
  rcases q1 with ⟨a, e, ⟨xs, hq⟩, q⟩ | ⟨a, e, ⟨xs, hq⟩, q⟩ | ⟨z, ex, q⟩
  · subst e
    cases r1
    obtain ⟨its, rv, p, hz⟩ := I1.list hq
    refine wpAny_pyIter_list p.isList ?_
    refine ⟨s1.heap.objs.size, [s1.heap.objs.size], _, _, H1, rfl, I1.kept (t' := s1.toks) fun b o e => Heap.get?_push_of_some _ e, turn_list a _, ⟨_, Heap.get?_push_size _ rfl, rfl, rfl⟩, fun b hb => ?_, q⟩
    have e : b = s1.heap.objs.size := by simpa using hb
    subst e
    exact I1.fpOk (Nat.le_refl _) (I1.hok.fresh (Nat.le_refl _))
  · subst e
    cases r1
    obtain ⟨its, rv, p, hz⟩ := I1.tuple hq
    refine wpAny_pyIter_tuple (show s1.heap.IsTuple a its.toArray from p) ?_
    refine ⟨s1.heap.objs.size, [s1.heap.objs.size], _, _, H1, rfl, I1.kept (t' := s1.toks) fun b o e => Heap.get?_push_of_some _ e, turn_tuple a _, ⟨_, Heap.get?_push_size _ rfl, rfl, rfl⟩, fun b hb => ?_, q⟩
    have e : b = s1.heap.objs.size := by simpa using hb
    subst e
    exact I1.fpOk (Nat.le_refl _) (I1.hok.fresh (Nat.le_refl _))
  · subst ex
    obtain ⟨t, rfl⟩ := r1
    cases ha : z.cps.all (· < 128)
    · exact PySem.wpAny_pyIter_wide ha (pi_one (tk := s1.toks) I1 _ (turn_str _ z t "str_iterator" (.inr rfl)) ⟨_, Heap.get?_push_size _ rfl, rfl, rfl⟩ q)
    · exact PySem.wpAny_pyIter_ascii ha (pi_one (tk := s1.toks) I1 _ (turn_str _ z t "str_ascii_iterator" (.inl rfl)) ⟨_, Heap.get?_push_size _ rfl, rfl, rfl⟩ q)
theorem pdi_any {tg : Expr} (he : PD c X e te) : PDI c X tg e (dIt te) := PI_imp (pi_any he) fun σ H R ⟨ρ, w, Q', hH, a, h, k⟩ => ⟨ρ, w, _, hH, a, h, fun d w1 v q b r => by
  cases d with
  | lst t ds => obtain ⟨p, xs, rfl, l, s1⟩ := r; exact .inl ⟨p, rfl, ⟨xs, l.sq⟩, k ds w1 _ q b (isIt_l l s1)⟩
  | tup ds => obtain ⟨p, xs, rfl, l, s1⟩ := r; exact .inr (.inl ⟨p, rfl, ⟨xs, l.sq⟩, k ds w1 _ q b (isIt_t l s1)⟩)
  | str z => obtain rfl : v = .str z := r; exact .inr (.inr ⟨z, rfl, k _ w1 _ q b isIt_s⟩)
  | _ => exact q.elim⟩
end
end DL
/-! The data layer, part e: loops, comprehensions, defs and calls. -/
namespace DL
open PySem L2
section
variable {X : Cx} {c : Wd} {st : Stmt} {rest body : List Stmt} {t u tb : DS} {e : Expr} {te : DE} {pos : Pos} {ti : DI} {g : DG} {vs : List Nat}
/-! ### for -/
def fori (g : DG) (body : DS) : List D → DS
  | [] => fun D ρ M => D.nx ρ M
  | x :: xs => fun D ρ M => g x ρ M fun ρ1 M1 => body { nx := fori g body xs D, rt := D.rt, bk := D.nx, ct := fori g body xs D } ρ1 M1
@[simp] def dFor (ti : DI) (g : DG) (body : DS) : DS := fun D ρ M => ti ρ M fun ds M1 => fori g body ds D ρ M1
theorem for_imp {K : PySem.W.Frag} {D : Ends} {σ : St} {H : Hp} (h : liftS K c (dFor ti g tb) D σ H) : tFor (liftI K c ti) (liftG K c vs g) (liftS K c tb) D σ H := by
  obtain ⟨ρ, w, D', hH, a, h, k⟩ := h
  refine ⟨ρ, w, _, hH, a, h, fun ds w1 J q b1 it => ?_⟩
  refine ⟨fun i m σ' H' => m = ds.length - i ∧ i ≤ ds.length ∧ ∃ ρ' w', w'.H = H' ∧ At K c w' ρ' σ' ∧ Bh K w1 w' ∧ fori g tb (ds.drop i) D' ρ' w'.M, ⟨ds.length, by simp, Nat.zero_le _, ρ, w1, rfl, a.next b1, Bh.refl b1.ok, by rw [List.drop_zero]; exact q⟩, ?_⟩
  rintro i m σ' H' ⟨rfl, hi, ρ', w', rfl, a', b', hf⟩
  obtain ⟨hgo, hst⟩ := it w' b'.kp b'.ok
  by_cases hlt : i < ds.length
  · right
    have e0 : ds.drop i = ds[i] :: ds.drop (i + 1) := List.drop_eq_getElem_cons hlt
    have e1 : ds[i]? = some ds[i] := List.getElem?_eq_getElem hlt
    rw [e0] at hf
    obtain ⟨g1, g2⟩ := hgo i _ e1
    refine ⟨g1, fun σ2 H2 => ∃ ρ2 w2, w2.H = H2 ∧ At K c w2 ρ2 σ2 ∧ Bh K w1 w2 ∧ fori g tb (ds.drop (i + 1)) D' ρ2 w2.M, fun σ2 H2 ⟨ρ2, w2, h1, h2, h3, h4⟩ => ⟨ds.length - (i + 1), by omega, rfl, hlt, ρ2, w2, h1, h2, h3, h4⟩, fun x H'' y => ?_⟩
    obtain ⟨b2, r2⟩ := g2 x H'' y
    refine ⟨ds[i], ρ', w'.at H'', _, rfl, a'.next b2, r2, hf, fun ρ3 w3 σ3 q3 b3 a3 _ => ?_⟩
    refine ⟨ρ3, w3, _, rfl, a3, q3, ?_⟩
    have b03 : Bh K w1 w3 := (b'.trans b2).trans b3
    exact { nx := fun ρ4 w4 σ4 q4 b4 a4 => ⟨ρ4, w4, rfl, a4, b03.trans b4, q4⟩
            rt := k.rt.back (b1.trans b03)
            bk := fun ρ4 w4 σ4 q4 b4 a4 => k.nx ρ4 w4 σ4 q4 ((b1.trans b03).trans b4) a4
            ct := fun ρ4 w4 σ4 q4 b4 a4 => ⟨ρ4, w4, rfl, a4, b03.trans b4, q4⟩ }
  · left
    have e : i = ds.length := by omega
    subst e
    rw [List.drop_length] at hf
    exact ⟨hst, k.nx ρ' w' σ' hf (b1.trans b') a'⟩
theorem pds_for {tg iter : Expr} (hp : PassesOwn (model X.prog X.w) X.A X.env X.xe) (hc : X.calm = true) (hi : PDI c X tg iter ti) (hg : PDG c X vs tg g) (hb : PDSs c X body tb) (hs : ∀ x, foldedSetIterable iter X.env x = pure x := by intro _; rfl) :
    PDS c X (.For tg iter body [] pos) (dFor ti g tb) := PS_imp (ps_for hp hc hi hg hb hs) fun D σ H h => for_imp h

/-! ### comprehensions -/
def wipeD (ρ : DEnv) : List Nat → DEnv
  | [] => ρ
  | v :: vs => (wipeD ρ vs).set v none
theorem wipeD_len (ρ : DEnv) : ∀ vs : List Nat, (wipeD ρ vs).length = ρ.length
  | [] => rfl
  | v :: vs => by unfold wipeD; rw [List.length_set, wipeD_len ρ vs]
theorem wipeD_some {ρ : DEnv} {i : Nat} {x : D} : ∀ {vs : List Nat}, (wipeD ρ vs)[i]? = some (some x) → ρ[i]? = some (some x) ∧ i ∉ vs
  | [], h => ⟨h, by simp⟩
  | v :: vs, h => by
    unfold wipeD at h
    by_cases hi : v = i
    · subst hi
      by_cases hv : v < (wipeD ρ vs).length
      · rw [List.getElem?_set_self hv] at h; cases h
      · rw [List.getElem?_eq_none (by simpa using hv)] at h; cases h
    · rw [List.getElem?_set_ne hi] at h
      obtain ⟨h1, h2⟩ := wipeD_some h
      exact ⟨h1, by simp only [List.mem_cons, not_or]; exact ⟨fun e => hi e.symm, h2⟩⟩
theorem RE.wipe {K : PySem.W.Frag} {w : Wd} {ρ : DEnv} {σ : St} (r : RE K w ρ σ) (vs : List Nat) : RE K w (wipeD ρ vs) (wipe σ vs) := ⟨by rw [wipe_length, wipeD_len]; exact r.1, fun i d e => by
  obtain ⟨h1, h2⟩ := wipeD_some e
  obtain ⟨v, h3, h4⟩ := r.2 i d h1
  exact ⟨v, by rw [wipe_out h2]; exact h3, h4⟩⟩
def compi (g : DG) (tt : DT) (te : DE) (ρ : DEnv) : List D → List D → Mu → DK → Prop
  | [], acc, M, Q => Q (.lst 0 acc) M
  | x :: xs, acc, M, Q => g x ρ M fun ρ1 M1 => tt ρ1 M1 fun b M2 => if b = true then te ρ1 M2 fun d M3 => acc.length < 100000 ∧ compi g tt te ρ xs (acc ++ [d]) M3 Q else compi g tt te ρ xs acc M2 Q
@[simp] def dLc (ti : DI) (g : DG) (tt : DT) (te : DE) (vs : List Nat) : DE := fun ρ M Q => ti ρ M fun ds M1 => compi g tt te (wipeD ρ vs) ds [] M1 Q
/-- the world while a list at L is made -/
def mk (w : Wd) (L : Addr) (xs : List V) : Wd := { hd := upd w.hd L (.lst xs), ln := w.ln, ex := w.ex, cl := w.cl, tb := w.tb, M := w.M, H := upd w.H L (.lst xs) }
theorem fr_mk {w : Wd} {L a : Addr} {xs : List V} : Fr (mk w L xs) a ↔ Fr w a ∧ a ≠ L := by
  constructor
  · rintro ⟨h1, h2, h3⟩
    have hne : a ≠ L := fun e => by subst e; rw [show (mk w a xs).hd a = some (.lst xs) from upd_same] at h2; cases h2
    exact ⟨⟨h1, by rw [← h2]; exact (upd_ne hne).symm, h3⟩, hne⟩
  · rintro ⟨⟨h1, h2, h3⟩, hne⟩
    exact ⟨h1, by rw [← h2]; exact upd_ne hne, h3⟩
/-- the list is begun, or grown -/
theorem kp_mk {K : PySem.W.Frag} {w : Wd} {L : Addr} {xs : List V} (o : Ok K w) (h : w.H L = none ∨ ∃ u, w.hd L = some u) : Kp w (mk w L xs) := by
  refine Kp.of (fun a u hf e _ => ?_) (fun r a u e => ⟨e, fun q => ?_⟩) rfl rfl rfl
  · have hne : a ≠ L := fun z => by
      subst z
      rcases h with h | ⟨u', h⟩
      · rw [e] at h; cases h
      · rw [hf.h] at h; cases h
    exact ⟨fr_mk.mpr ⟨hf, hne⟩, by show upd w.H L _ a = _; rw [upd_ne hne]; exact e⟩
  · have hne : a ≠ L := fun z => by
      subst z
      rcases h with h | ⟨u', h⟩
      · rw [q] at h; cases h
      · rw [(o.lap r a u e).2] at h; cases h
    show upd w.H L _ a = _; rw [upd_ne hne]; exact q
theorem ok_mk {K : PySem.W.Frag} {w : Wd} {L : Addr} {xs : List V} (o : Ok K w) (h : w.H L = none ∨ ∃ u, w.hd L = some u) : Ok K (mk w L xs) := by
  have hM : w.M L = none := by
    rcases h with h | ⟨u', h⟩
    · exact (o.fresh h).m
    · cases e : w.M L with
      | none => rfl
      | some m => have := o.ap L m e; rw [h] at this; cases this
  have hln : ∀ r a u, w.ln r a = some u → a ≠ L := fun r a u e z => by
    subst z
    rcases h with h | ⟨u', h⟩
    · rw [o.len r a u e] at h; cases h
    · rw [(o.lap r a u e).2] at h; cases h
  refine ⟨fun a m e => (o.mo a m e).mono (kp_mk o h) ?_, fun a u e => ?_, fun a m e => ?_, fun r a u e => ?_, fun r a u e => ⟨(o.lap r a u e).1, ?_⟩, o.lfr, fun a u e => ?_, o.ll, ?_⟩
  · have hne : a ≠ L := fun z => by subst z; rw [show (mk w a xs).M a = w.M a from rfl, hM] at e; cases e
    show upd w.H L _ a = _; rw [upd_ne hne]
  · by_cases z : a = L
    · subst z
      have : (mk w a xs).hd a = some (.lst xs) := upd_same
      rw [this] at e; cases e
      exact upd_same
    · have e' : w.hd a = some u := by
        have q : (mk w L xs).hd a = w.hd a := upd_ne z
        rw [← q]; exact e
      show upd w.H L _ a = _; rw [upd_ne z]; exact o.hid a u e'
  · have hne : a ≠ L := fun z => by subst z; rw [show (mk w a xs).M a = w.M a from rfl, hM] at e; cases e
    show upd w.hd L _ a = _; rw [upd_ne hne]; exact o.ap a m e
  · show upd w.H L _ a = _; rw [upd_ne (hln r a u e)]; exact o.len r a u e
  · show upd w.hd L _ a = _; rw [upd_ne (hln r a u e)]; exact (o.lap r a u e).2
  · by_cases z : a = L
    · subst z
      have q : (mk w a xs).hd a = some (.lst xs) := upd_same
      rw [q] at e; cases e; exact ⟨_, rfl⟩
    · have q : (mk w L xs).hd a = w.hd a := upd_ne z
      rw [q] at e; exact o.hl a u e
  · rcases h with h | ⟨u', h⟩
    · exact o.tabs.ext fun b v q => by show upd w.H L _ b = _; rw [upd_ne (ne_of_none q h)]; exact q
    · obtain ⟨ys, rfl⟩ := o.hl L u' h
      exact tabs_upd o.tabs (o.hid L _ h) (fun _ z => nomatch z) (fun _ z => nomatch z)
/-- the list is shown -/
theorem shown {K : PySem.W.Frag} {w1 w' : Wd} {L : Addr} {xs : List V} (fL : Fr w1 L) (hhd : w'.hd = upd w1.hd L (.lst xs)) (ok' : Ok K w') : Kp w' { w' with hd := w1.hd } ∧ Ok K { w' with hd := w1.hd } ∧ Fr { w' with hd := w1.hd } L := by
  have hdL : w'.hd L = some (.lst xs) := by rw [hhd]; exact upd_same
  have hM : w'.M L = none := by
    cases e : w'.M L with
    | none => rfl
    | some m => have := ok'.ap L m e; rw [hdL] at this; cases this
  have hl : ∀ r, w'.ln r L = none := fun r => by
    cases e : w'.ln r L with
    | none => rfl
    | some m => have := (ok'.lap r L m e).2; rw [hdL] at this; cases this
  have nh : ∀ x, w'.hd x = none → w1.hd x = none := fun x z => by
    rw [hhd] at z
    have hne : x ≠ L := fun q => by subst q; rw [upd_same] at z; cases z
    rw [upd_ne hne] at z; exact z
  have hd6 : ∀ x u, w1.hd x = some u → w'.hd x = some u := fun x u e => by
    have hne : x ≠ L := fun q => by subst q; rw [fL.h] at e; cases e
    rw [hhd, upd_ne hne]; exact e
  have kp6 : Kp w' { w' with hd := w1.hd } := Kp.of (fun x u hf e _ => ⟨⟨hf.m, nh x hf.h, hf.l⟩, e⟩) (fun _ _ _ e => ⟨e, id⟩) rfl rfl rfl
  refine ⟨kp6, ⟨fun x m e => (ok'.mo x m e).mono kp6 rfl, fun x u e => ok'.hid x u (hd6 x u e), fun x m e => nh x (ok'.ap x m e), ok'.len, fun r x u e => ⟨(ok'.lap r x u e).1, nh x (ok'.lap r x u e).2⟩, ok'.lfr, fun x u e => ok'.hl x u (hd6 x u e), ok'.ll, ok'.tabs⟩, ⟨hM, fL.h, hl⟩⟩
/-! in a comprehension's block: the entry is taken anew -/
def liftB (K : PySem.W.Frag) (c0 : Wd) (t : DE) : TE := fun σ H Q => ∃ c, SC c0 c ∧ lift K c t σ H Q
def liftTB (K : PySem.W.Frag) (c0 : Wd) (t : DT) : TT := fun σ H Q => ∃ c, SC c0 c ∧ liftT K c t σ H Q
def liftGB (K : PySem.W.Frag) (c0 : Wd) (vs : List Nat) (t : DG) : TG := fun v σ H Q => ∃ c, SC c0 c ∧ liftG K c vs t v σ H Q
theorem At.self {K : PySem.W.Frag} {c w : Wd} {ρ : DEnv} {σ : St} (a : At K c w ρ σ) : At K w w ρ σ := ⟨Kp.refl w, a.re, a.ok, rfl, rfl⟩
theorem comp_imp {K : PySem.W.Frag} {tt : DT} {us : List Nat} (hsub : ∀ i ∈ us, i ∈ vs) {σ : St} {H : Hp} {Q : VK} (h : lift K c (dLc ti g tt te vs) σ H Q) : tLc (liftI K c ti) (liftGB K c us g) (liftTB K c tt) (liftB K c te) vs σ H Q := by
  obtain ⟨ρ, w, Q', hH, a, h, k⟩ := h
  refine ⟨ρ, w, _, hH, a, h, fun ds w1 J q b1 it L hL => ?_⟩
  have a1 := a.next b1
  have fL := b1.ok.fresh hL
  refine ⟨fun i m H' => m = ds.length - i ∧ i ≤ ds.length ∧ ∃ w' acc xs, w'.H = H' ∧ w'.hd = upd w1.hd L (.lst xs) ∧ w'.ln = w1.ln ∧ Kp w1 w' ∧ Ok K w' ∧ RpL K w' acc xs ∧ compi g tt te (wipeD ρ vs) (ds.drop i) acc w'.M Q',
    ⟨ds.length, by simp, Nat.zero_le _, mk w1 L [], [], [], rfl, rfl, rfl, kp_mk b1.ok (.inl hL), ok_mk b1.ok (.inl hL), rfl, by rw [List.drop_zero]; exact q⟩, ?_⟩
  rintro i m H' ⟨rfl, hi, w', acc, xs, rfl, hhd, hln, kp', ok', racc, hf⟩
  have hdL : w'.hd L = some (.lst xs) := by rw [hhd]; exact upd_same
  obtain ⟨hgo, hst⟩ := it w' kp' ok'
  by_cases hlt : i < ds.length
  · right
    have e0 : ds.drop i = ds[i] :: ds.drop (i + 1) := List.drop_eq_getElem_cons hlt
    have e1 : ds[i]? = some ds[i] := List.getElem?_eq_getElem hlt
    rw [e0] at hf
    obtain ⟨g1, g2⟩ := hgo i _ e1
    refine ⟨g1, fun H2 => ∃ w2 acc2 xs2, w2.H = H2 ∧ w2.hd = upd w1.hd L (.lst xs2) ∧ w2.ln = w1.ln ∧ Kp w1 w2 ∧ Ok K w2 ∧ RpL K w2 acc2 xs2 ∧ compi g tt te (wipeD ρ vs) (ds.drop (i + 1)) acc2 w2.M Q', fun H2 ⟨w2, acc2, xs2, h1, h2, h3, h4, h5, h6, h7⟩ => ⟨ds.length - (i + 1), by omega, rfl, hlt, w2, acc2, xs2, h1, h2, h3, h4, h5, h6, h7⟩, fun x H'' y => ?_⟩
    obtain ⟨b2, r2⟩ := g2 x H'' y
    have at2 : At K (w'.at H'') (w'.at H'') (wipeD ρ vs) (wipe σ vs) := ⟨Kp.refl _, ((a1.re.wipe vs).mono kp').mono b2.kp, b2.ok, rfl, rfl⟩
    have cl2 : SC c (w'.at H'') := ((a1.kp.trans kp').trans b2.kp).sc
    refine ⟨w'.at H'', cl2, ds[i], wipeD ρ vs, w'.at H'', _, rfl, at2, r2, hf, fun ρ3 w3 σ3 q3 b3 a3 g3 => ?_⟩
    have hag : Ag vs (wipe σ vs) σ3 := ⟨g3.1, fun j hj => g3.2 j (fun z => hj (hsub j z))⟩
    refine ⟨by rw [wipe_ag hag, wipe_ag wipe_wipe], w3, cl2.trans b3.kp.sc, ρ3, w3, _, rfl, a3.self, q3, fun b w4 q4 b4 => ?_⟩
    have b24 : Bh K w' w4 := (b2.trans b3).trans b4
    cases b with
    | false =>
      refine iteF ⟨w4, acc, xs, rfl, b24.hd.trans hhd, b24.ln.trans hln, kp'.trans b24.kp, b24.ok, racc.mono b24.kp, ?_⟩
      exact q4
    | true =>
      refine iteT ⟨w4, (cl2.trans b3.kp.sc).trans b4.kp.sc, ρ3, w4, _, rfl, (a3.next b4).self, q4, fun d w5 v q5 b5 r5 => ?_⟩
      have b25 : Bh K w' w5 := b24.trans b5
      have hd5 : w5.hd L = some (.lst xs) := by rw [b25.hd]; exact hdL
      have r5' := racc.mono b25.kp
      refine ⟨xs, b25.ok.hid L _ hd5, szlt (by rw [racc.length]; exact q5.1), mk w5 L (xs ++ [v]), acc ++ [d], xs ++ [v], rfl, ?_, b25.ln.trans hln, (kp'.trans b25.kp).trans (kp_mk b25.ok (.inr ⟨_, hd5⟩)), ok_mk b25.ok (.inr ⟨_, hd5⟩), (r5'.append (RpL.one r5)).mono (kp_mk b25.ok (.inr ⟨_, hd5⟩)), q5.2⟩
      show upd w5.hd L _ = _
      rw [b25.hd, hhd, upd_upd]
  · left
    have e : i = ds.length := by omega
    subst e
    rw [List.drop_length] at hf
    refine ⟨hst, ?_⟩
    obtain ⟨kp6, ok6, f6⟩ := shown fL hhd ok'
    exact k (.lst 0 acc) { w' with hd := w1.hd } (.ref L) hf ⟨(b1.kp.trans kp').trans kp6, ok6, b1.hd, hln.trans b1.ln⟩ ⟨L, xs, rfl, LsAt.free f6 (ok'.hid L _ hdL), racc.mono kp6⟩
abbrev PDTs (c : Wd) (X : Cx) (ifs : List Expr) (t : DT) : Prop := PTs X ifs (liftT X.K c t)
@[simp] def dYes : DT := fun _ M Q => Q true M
theorem pdts_nil : PDTs c X [] dYes := ⟨fun pins s σ H Q I ⟨ρ, w, Q', hH, a, h, k⟩ => pts_nil.run pins s σ H Q I (hH ▸ k true w h (Bh.refl a.ok))⟩
theorem pdts_one {ce : Expr} {tt : DT} (h : PDT c X ce tt) : PDTs c X [ce] tt := pts_one h
theorem pd_lc {elt tg iter : Expr} {ifs : List Expr} {scope : Scope} {own : List (Str × Nat)} {us : List Nat} {tt : DT} (hc : X.calm = true) (hN : X.N.Nodup) (hi : PDI c X tg iter ti) (ok : BlkOk X.N X.env.scope scope own)
    (hg : ∀ (c' : Wd), SC c c' → ∀ (s : Shared) (H : Hp) (C : Addr) (cl : List (Str × Addr)) (fp : List Addr), PDG c' (X.blk s H scope (compEnvC scope cl C X.env) fp) us tg g) (ht : ∀ (c' : Wd), SC c c' → ∀ (s : Shared) (H : Hp) (C : Addr) (cl : List (Str × Addr)) (fp : List Addr), PDTs c' (X.blk s H scope (compEnvC scope cl C X.env) fp) ifs tt)
    (he : ∀ (c' : Wd), SC c c' → ∀ (s : Shared) (H : Hp) (C : Addr) (cl : List (Str × Addr)) (fp : List Addr), PD c' (X.blk s H scope (compEnvC scope cl C X.env) fp) elt te) (hsub : ∀ i ∈ us, i ∈ own.map (·.2) := by decide) (hs : ∀ x, foldedSetIterable iter X.env x = pure x := by intro _; rfl) :
    PD c X (.ListComp elt [⟨tg, iter, ifs, 0⟩] scope pos) (dLc ti g tt te (own.map (·.2))) := PE_imp (pe_lc hc hN hi ok (fun s H C cl fp => ⟨fun pins sh σ H' v u Q I r ⟨c', e, q⟩ => (hg c' e s H C cl fp).run pins sh σ H' v u Q I r q⟩) (fun s H C cl fp => ⟨fun pins sh σ H' Q I ⟨c', e, q⟩ => (ht c' e s H C cl fp).run pins sh σ H' Q I q⟩) (fun s H C cl fp => ⟨fun pins sh σ H' Q I ⟨c', e, q⟩ => (he c' e s H C cl fp).run pins sh σ H' Q I q⟩) hs) fun σ H Q h => comp_imp hsub h
theorem pds_setLc {i : Nat} {y : Str} {py spos : Pos} {elt tg iter : Expr} {ifs : List Expr} {scope : Scope} {own : List (Str × Nat)} {us : List Nat} {tt : DT} (hc : X.calm = true) (hN : X.N.Nodup)
    (hi : PDI c X tg iter ti) (ok : BlkOk X.N X.env.scope scope own)
    (hg : ∀ (c' : Wd), SC c c' → ∀ (s : Shared) (H : Hp) (C : Addr) (cl : List (Str × Addr)) (fp : List Addr), PDG c' (X.blk s H scope (compEnvC scope cl C X.env) fp) us tg g) (ht : ∀ (c' : Wd), SC c c' → ∀ (s : Shared) (H : Hp) (C : Addr) (cl : List (Str × Addr)) (fp : List Addr), PDTs c' (X.blk s H scope (compEnvC scope cl C X.env) fp) ifs tt)
    (he : ∀ (c' : Wd), SC c c' → ∀ (s : Shared) (H : Hp) (C : Addr) (cl : List (Str × Addr)) (fp : List Addr), PD c' (X.blk s H scope (compEnvC scope cl C X.env) fp) elt te)
    (hsw : swapsWith (.ListComp elt [⟨tg, iter, ifs, 0⟩] scope pos) (some (.Name y py)) spos.line X.env = pure true) (hy : X.N[i]? = some y := by rfl) (hyl : X.env.scope.names.lookup y = some .local := by rfl) (hsub : ∀ i ∈ us, i ∈ own.map (·.2) := by decide) (hs : ∀ x, foldedSetIterable iter X.env x = pure x := by intro _; rfl) :
    PDS c X (.Assign [.Name y py] (.ListComp elt [⟨tg, iter, ifs, 0⟩] scope pos) spos) (dAsg (dLc ti g tt te (own.map (·.2))) (gNm i)) := PS_imp (ps_setLc hc hN hy hyl hsw hi ok (fun s H C cl fp => ⟨fun pins sh σ H' v u Q I r ⟨c', e, q⟩ => (hg c' e s H C cl fp).run pins sh σ H' v u Q I r q⟩) (fun s H C cl fp => ⟨fun pins sh σ H' Q I ⟨c', e, q⟩ => (ht c' e s H C cl fp).run pins sh σ H' Q I q⟩) (fun s H C cl fp => ⟨fun pins sh σ H' Q I ⟨c', e, q⟩ => (he c' e s H C cl fp).run pins sh σ H' Q I q⟩) hs) fun D σ H ⟨ρ, w, D', hH, a, h, k⟩ =>
  comp_imp hsub ⟨ρ, w, _, hH, a, h, fun d w1 v q b r => k.nx _ w1 _ q b ((a.next b).set r)⟩
/-- a comprehension whose element is a function of the item -/
theorem compi_map {g : DG} {te : DE} {ρ : DEnv} {f : D → D} {M : Mu} : ∀ (xs acc : List D) (Q : DK), (∀ x ∈ xs, ∀ Q : DK, Q (f x) M → g x ρ M fun ρ1 M1 => te ρ1 M1 Q) → acc.length + xs.length ≤ 100000 → Q (.lst 0 (acc ++ xs.map f)) M → compi g dYes te ρ xs acc M Q
  | [], acc, Q, h, hl, q => by simpa [compi] using q
  | x :: xs, acc, Q, h, hl, q => by
    rw [compi]
    show g x ρ M fun ρ1 M1 => te ρ1 M1 fun d M3 => acc.length < 100000 ∧ compi g dYes te ρ xs (acc ++ [d]) M3 Q
    refine h x List.mem_cons_self _ ⟨by simp at hl; omega, compi_map xs (acc ++ [f x]) Q (fun y hy => h y (List.mem_cons_of_mem _ hy)) (by simp at hl ⊢; omega) ?_⟩
    simpa using q
end
end DL
/-! The data layer, part f: defs, calls, built-ins. -/
namespace DL
open PySem L2

/-! ### what a def promises, over data -/
/-- what is wanted of an exception: its class by name, its fields (the last one set first) -/
abbrev DXK := Str → List (Str × D) → Mu → Prop
abbrev DSp := List D → Mu → DK → DXK → Prop
abbrev DX0 : DXK := fun _ _ _ => False
def WvX (K : PySem.W.Frag) (w : Wd) (E' : DXK) (E : XK) : Prop := ∀ n fs w' dd vs, E' n fs w'.M → Bh K w w' → Fr w' dd → w'.H dd = some (.xd vs) → RpF K w' fs vs → E (.ref (w.cl n)) (some dd) w'.H
def upX (K : PySem.W.Frag) (cl : Str → Addr) (tb : List (Addr × Str)) (s : DSp) : Sp := fun vs H Q E => ∃ w ds Q' E', w.H = H ∧ Cc cl tb w ∧ Ok K w ∧ RpL K w ds vs ∧ s ds w.M Q' E' ∧ Wv K w Q' Q ∧ WvX K w E' E
/-- an exception that leaves a def entered at c -/
def XKof (K : PySem.W.Frag) (c : Wd) (E : DXK) : XK := fun cls d H' => ∃ n fs w' dd vs, cls = .ref (c.cl n) ∧ d = some dd ∧ w'.H = H' ∧ Bh K c w' ∧ Fr w' dd ∧ H' dd = some (.xd vs) ∧ RpF K w' fs vs ∧ E n fs w'.M
/-- the context takes such exceptions -/
def Tk (c : Wd) (X : Cx) (E : DXK) : Prop := L2N.Takes X (fun cls d _ H => XKof X.K c E cls d H)
theorem tk0 {c : Wd} {X : Cx} : Tk c X DX0 := fun _ _ ⟨_, _, _, _, _, _, _, _, _, _, _, _, _, _, _, _, _, _, _, _, _, _, _, _, _, _, _, _, z⟩ => z.elim
@[simp] def startD (N : List Str) (ds : List D) : DEnv := ds.map some ++ List.replicate (N.length - ds.length) none
theorem RE.start {K : PySem.W.Frag} {w : Wd} {N : List Str} : ∀ {ds : List D} {vs : List V}, RpL K w ds vs → RE K w (startD N ds) (start N vs) := fun {ds vs} r => by
  have hl := r.length
  refine ⟨by simp [startD, L2.start, hl], fun i d e => ?_⟩
  unfold startD at e
  by_cases hi : i < ds.length
  · rw [List.getElem?_append_left (by simpa using hi), List.getElem?_map] at e
    cases ed : ds[i]? with
    | none => rw [ed] at e; cases e
    | some d' =>
      rw [ed] at e
      obtain rfl : d' = d := by simpa using e
      obtain ⟨v, h1, h2⟩ := r.at ed
      refine ⟨v, ?_, h2⟩
      unfold L2.start
      rw [List.getElem?_append_left (by simp; omega), List.getElem?_map, h1]; rfl
  · rw [List.getElem?_append_right (by simpa using hi), List.getElem?_replicate] at e
    split at e <;> cases e
section
variable {P : Program} {w : World} {K : PySem.W.Frag} {mg : Str → Option Value} {base : Heap} {x qual : Str} {st : Stmt} {dvs : List V} {kws : List (Str × V)} {f : Addr} {fd : FuncData} {cl : Str → Addr} {tb : List (Addr × Str)}
theorem tk_of {N : List Str} {sc : Scope} {cdv : Value} {A : Around} {outer : List Env} {sh : Shared} {H : Hp} {E : XK} {E' : DXK} {c : Wd} (h : WvX K c E' E) : Tk c (cxOf (L2N.CX P w) P w K mg base N qual sc f cdv A outer sh H E) E' := by
  refine L2N.Takes.imp (L2N.takes_of (E := E) rfl rfl rfl rfl) fun cls d σ H q => ?_
  obtain ⟨n, fs, w', dd, vs, rfl, rfl, rfl, b, fr, hx, r, e⟩ := q
  exact h n fs w' dd vs e b fr hx r
/-- a def keeps its promise -/
theorem fnX {N ps : List Str} {k : Nat} {s : DSp} {t : DXK → DS} (F : FunD K x qual (defArgs st) (defBody st) (defScope st) dvs kws f fd) (S : FnScope N ps (defScope st))
    (hb : ∀ (cdv : Value) (A : Around) (outer : List Env) (sh : Shared) (H : Hp) (E : XK) (c : Wd) (E' : DXK), Cc cl tb c → Room k (A.deeper (PyProof.Rows.envOfC qual (defScope st) sh.heap.objs.size f cdv)) → Tk c (cxOf (L2N.CX P w) P w K mg base N qual (defScope st) f cdv A outer sh H E) E' →
      PDSs c (cxOf (L2N.CX P w) P w K mg base N qual (defScope st) f cdv A outer sh H E) (defBody st) (t E'))
    (hs : ∀ ds M Q E', s ds M Q E' → ds.length = ps.length ∧ t E' { nx := fun _ M' => Q .non M', rt := Q } (startD N ds) M) : FnOk P w K mg base (L2N.CX P w) (k + 1) f fd ps (upX K cl tb s) := by
  refine F.ok S (fun vs H Q E h => ?_) (fun cdv A outer sh H vs Q E hr h => ?_)
  · obtain ⟨w, ds, Q', E', hH, hcc, ok, r, h, k, kx⟩ := h
    rw [r.length]; exact (hs ds _ Q' E' h).1
  · obtain ⟨w, ds, Q', E', hH, hcc, ok, r, h, k, kx⟩ := h
    refine ⟨liftS K w (t E'), hb cdv A outer sh H E w E' hcc hr (tk_of kx), startD N ds, w, _, hH, ⟨Kp.refl w, RE.start r, ok, rfl, rfl⟩, (hs ds _ Q' E' h).2, ?_⟩
    exact { nx := fun ρ' w' σ' q b a => k .non w' .non q b rfl, rt := k, bk := fun _ _ _ q => q.elim, ct := fun _ _ _ q => q.elim }
/-- a def of the text that keeps its promise, by its name -/
structure Fnd (P : Program) (w : World) (K : PySem.W.Frag) (mg : Str → Option Value) (base : Heap) (cl : Str → Addr) (tb : List (Addr × Str)) (k : Nat) (x : Str) (st : Stmt) (ps : List Str) (s : DSp) : Prop where
  ex : ∃ f fd, FunD K x x (defArgs st) (defBody st) (defScope st) [] [] f fd ∧ FnOk P w K mg base (L2N.CX P w) k f fd ps (upX K cl tb s) ∧ mg x = some (.ref f) ∧ Binds K fd ps []
theorem Fnd.mono {j k : Nat} {ps : List Str} {s : DSp} (F : Fnd P w K mg base cl tb j x st ps s) (h : j ≤ k) : Fnd P w K mg base cl tb k x st ps s := by
  obtain ⟨f, fd, a, b, c⟩ := F.ex
  exact ⟨f, fd, a, b.mono h, c⟩
end
section
variable {X : Cx} {c : Wd} {e o : Expr} {es : List Expr} {te ta tb : DE} {tl tk : DA} {pos p apos : Pos} {x : Str} {st : Stmt} {ps : List Str} {s : DSp} {k : Nat} {E : DXK}
@[simp] def dCall (s : DSp) (E : DXK) (t : DA) : DE := fun ρ M Q => t ρ M fun ds M1 => s ds M1 Q E
theorem Tk.pass (h : Tk c X E) : Passes (L2N.CX X.prog X.w) X (XKof X.K c E) := L2N.passes_call h fun _ _ _ _ h => h
theorem wvX_of {K : PySem.W.Frag} {w w1 : Wd} {ρ : DEnv} {σ : St} (a : At K c w ρ σ) (b : Bh K w w1) : WvX K w1 E (XKof K c E) := fun n fs w' dd vs e b' fr hx r =>
  ⟨n, fs, w', dd, vs, by rw [b.kp.cl, a.kp.cl], rfl, rfl, (a.bh.trans b).trans b', fr, hx, r, e⟩
theorem call_imp {K : PySem.W.Frag} {cl : Str → Addr} {tb : List (Addr × Str)} (hcc : Cc cl tb c) {σ : St} {H : Hp} {Q : VK} (h : lift K c (dCall s E tl) σ H Q) : tCall (upX K cl tb s) [] (XKof K c E) (liftA K c tl) σ H Q := by
  obtain ⟨ρ, w, Q', hH, a, h, k⟩ := h
  refine ⟨ρ, w, _, hH, a, h, fun ds w1 vs q b r => ?_⟩
  show upX K cl tb s (vs ++ []) w1.H Q (XKof K c E)
  rw [List.append_nil]
  exact ⟨w1, ds, Q', E, rfl, hcc.sc (a.kp.trans b.kp).sc, b.ok, r, q, k.back b, wvX_of a b⟩
theorem pd_call {cl : Str → Addr} {tb : List (Addr × Str)} (hcc : Cc cl tb c) (G : Fnd X.prog X.w X.K X.mg X.base cl tb k x st ps s) (hr : Room k X.A) (tk : Tk c X E) (ha : PDA c X (e :: es) tl) (hg : Gl X x := by rfl) (hdb : (x == ("__debug__" : Str)) = false := by decide)
    (he : starEach (e :: es) X.env = (false, eval e X.env) :: starEach es X.env := by rfl) (hpl : (backTo pos (starEach es X.env)).any (·.1) = false := by rfl) : PD c X (.Call (.Name x p) (e :: es) [] pos) (dCall s E tl) := by
  obtain ⟨f, fd, F, G, hm, hb⟩ := G.ex
  exact PE_imp (pe_call G hr hg hm F.kp hb .nil tk.pass ha (hdb := hdb) (he := he) (hpl := hpl)) fun σ H Q h => call_imp hcc h
theorem pd_call0 {cl : Str → Addr} {tb : List (Addr × Str)} (hcc : Cc cl tb c) (G : Fnd X.prog X.w X.K X.mg X.base cl tb k x st ps s) (hr : Room k X.A) (tk : Tk c X E) (hg : Gl X x := by rfl) (hdb : (x == ("__debug__" : Str)) = false := by decide) : PD c X (.Call (.Name x p) [] [] pos) (dCall s E dNil) := by
  obtain ⟨f, fd, F, G, hm, hb⟩ := G.ex
  refine PE_imp (pe_call0 G hr hg hm F.kp hb .nil tk.pass (hdb := hdb)) fun σ H Q ⟨ρ, w, Q', hH, a, h, k⟩ => ?_
  exact ⟨w, [], Q', E, hH, hcc.sc a.kp.sc, a.ok, rfl, h, k, wvX_of a (Bh.refl a.ok)⟩
/-! ### keywords -/
abbrev PDK (c : Wd) (X : Cx) (kws : List Keyword) (t : DA) : Prop := PK X kws (liftA X.K c t)
theorem PK_imp {kws : List Keyword} {t t' : TA} (h : PK X kws t) (i : ∀ σ H Q, t' σ H Q → t σ H Q) : PK X kws t' := ⟨fun pos pins s σ H Q I q => h.run pos pins s σ H Q I (i σ H Q q)⟩
theorem pdk_nil : PDK c X [] dNil := PK_imp pk_nil fun σ H Q ⟨ρ, w, Q', hH, a, h, k⟩ => hH ▸ k [] w [] h (Bh.refl a.ok) rfl
theorem pdk_cons {kws : List Keyword} {nm : Option Str} {kpos : Pos} (ha : PD c X e te) (hr : PDK c X kws tl) : PDK c X (⟨nm, e, kpos⟩ :: kws) (dCons te tl) := PK_imp (pk_cons ha hr) fun σ H Q ⟨ρ, w, Q', hH, a, h, k⟩ =>
  ⟨ρ, w, _, hH, a, h, fun d w1 v q b1 r => ⟨ρ, w1, _, rfl, a.next b1, q, fun ds w2 vs q2 b2 r2 => k (d :: ds) w2 (v :: vs) q2 (b1.trans b2) ⟨v, vs, rfl, r.mono b2.kp, r2⟩⟩⟩
/-- all arguments by keywords; g puts them in the parameters' order -/
@[simp] def dCallK0 (s : DSp) (E : DXK) (m : Nat) (g : List D → List D) (tk : DA) : DE := fun ρ M Q => tk ρ M fun ds M1 => ds.length = m ∧ s (g ds) M1 Q E
theorem pd_callK0 {cl : Str → Addr} {tb : List (Addr × Str)} (hcc : Cc cl tb c) {kws : List Keyword} {ks : List Str} {m : Nat} (g : {α : Type} → List α → List α) (hrel : ∀ {α β : Type} (R : α → β → Prop) (a : List α) (b : List β), a.length = m → Paired R a b → Paired R (g a) (g b))
    (hgL : ∀ (K : PySem.W.Frag) (w : Wd) (ds : List D) (vs : List V), ds.length = m → RpL K w ds vs → RpL K w (g ds) (g vs))
    (hbind : ∀ (kV doc pm : Value) (an : Option Addr) (cdv ct : Value) (ws : List Value), ws.length = m → bindArgs (PySem.W.fnOf x x (defArgs st) (defBody st) (defScope st) .none kV doc pm an cdv ct) ⟨[], ks.zip ws⟩ = pure (ps.zip (g ws)))
    (G : Fnd X.prog X.w X.K X.mg X.base cl tb k x st ps s) (hr : Room k X.A) (htk : Tk c X E) (hkw : PDK c X kws tk) (hg : Gl X x := by rfl) (hall : (backToKw pos (keywordEach kws X.env)).all (·.1.isSome) = true := by rfl) (hks : (backToKw pos (keywordEach kws X.env)).filterMap (·.1) = ks := by rfl)
    (hdb : (x == ("__debug__" : Str)) = false := by decide) (hpl : ((backTo pos (starEach [] X.env)).any (·.1) || (backToKw pos (keywordEach kws X.env)).any (·.1.isNone)) = false := by rfl) :
    PD c X (.Call (.Name x p) [] kws pos) (dCallK0 s E m g tk) := by
  obtain ⟨f, fd, F, G, hm, hb⟩ := G.ex
  refine ⟨fun pins sh σ H Q I ⟨ρ, w, Q', hH, a, h, k⟩ => ?_⟩
  refine wpAny_Call_Name_kw (ld_glob I hg hm ?_ hdb)
  have h1 : liftA X.K c tk σ H (fun vs H1 => ∃ (w1 : Wd) (ds : List D), w1.H = H1 ∧ Bh X.K w w1 ∧ (ds.length = m ∧ s (g ds) w1.M Q' E) ∧ RpL X.K w1 ds vs) := ⟨ρ, w, _, hH, a, h, fun ds w1 vs q b r => ⟨w1, ds, rfl, b, q, r⟩⟩
  refine PySem.W.callWith_KW0 (h₀ := X.base) I.ok.mod.kin F.kp hall (thn (hkw.run pos pins sh σ H _ I h1) fun ws s2 ⟨zs, H2, I2, rz, w1, ds, hw, b, q, r⟩ => ⟨I2.kIn, ?_⟩) hpl
  rw [hks]
  subst hw
  have hl : zs.length = m := by rw [r.length]; exact q.1
  have r2 : Vals (g zs) (g ws) := hrel RelV zs ws hl rz
  have hsp : upX X.K cl tb s (g zs) w1.H Q (XKof X.K c E) := ⟨w1, g ds, Q', E, rfl, hcc.sc (a.kp.trans b.kp).sc, b.ok, hgL X.K w1 ds zs q.1 r, q.2, k.back b, wvX_of a b⟩
  obtain ⟨oc, od, dV, kV, doc, pm, an, cdv, ct, osl, rfl, lk, hcd, hD, hK⟩ := F.ex
  obtain rfl : dV = .none := by
    rcases hD with ⟨_, z⟩ | ⟨z, _⟩
    · exact z
    · exact absurd rfl z
  refine wpAny_call (codeAny_mono (G.run X.A X.stack s2 _ ⟨[], ks.zip ws⟩ (g ws) (g zs) Q (XKof X.K c E) hr I2.env0 (.of_eq (hbind kV doc pm an cdv ct ws (by rw [← rz.length]; exact hl))) r2 hsp) fun r s' hq => ?_)
  cases r with
  | error e => exact htk.pass pins σ _ s2 e s' I2 hq
  | ok fl =>
    cases fl with
    | ret u => exact I2.after hq
    | next => exact False.elim hq
    | brk => exact False.elim hq
    | cont => exact False.elim hq
end
end DL
/-! The data layer, part g: own exceptions: made, raised. -/
namespace DL
open PySem L2
/-! ### what an exception's own __init__ does -/
/-- the fields are set, the exception has its dict at d -/
def xfin (H : Hp) (a C d : Addr) (fs : List (Str × V)) : Hp := upd (upd H d (exd d fs)) a (exo a C (some d))
def spIni (C : Addr) (m : Nat) (mkf : List V → List (Str × V)) : Sp := fun vs H Q _ => ∃ a args, vs = .ref a :: args ∧ args.length = m ∧ H a = some (exo a C none) ∧ ∀ d, H d = none → d ≠ a → Q .non (xfin H a C d (mkf args))
section
variable {K : PySem.W.Frag} {C a d : Addr} {f : Str} {te : TE} {y : V} {D : Ends} {σ : St} {H : Hp} {fs : List (Str × V)}
theorem ost_first (T : OexC K C) (hno : PySem.W.findIn K (.ref C) f = some none) (h0 : σ[0]? = some (some (.ref a))) (ha : H a = some (exo a C none)) (hy : ∀ Q : VK, Q y H → te σ H Q)
    (k : ∀ d, H d = none → d ≠ a → D.nx σ (xfin H a C d [(f, y)])) : tOst K f (tVar 0) te D σ H :=
  hy _ ⟨.ref a, h0, a, C, rfl, T, hno, .inl ⟨ha, k⟩⟩
theorem ost_next (T : OexC K C) (hno : PySem.W.findIn K (.ref C) f = some none) (h0 : σ[0]? = some (some (.ref a))) (hd : d ≠ a) (hl : fs.length ≤ 900) (hy : ∀ Q : VK, Q y (xfin H a C d fs) → te σ (xfin H a C d fs) Q)
    (k : D.nx σ (xfin H a C d ((f, y) :: fs))) : tOst K f (tVar 0) te D σ (xfin H a C d fs) := by
  refine hy _ ⟨.ref a, h0, a, C, rfl, T, hno, .inr ⟨d, fs, upd_same, ?_, hl, ?_⟩⟩
  · unfold xfin; rw [upd_ne hd, upd_same]
  · have e : upd (xfin H a C d fs) d (exd d ((f, y) :: fs)) = xfin H a C d ((f, y) :: fs) := by
      funext b
      unfold xfin
      by_cases hb : b = d
      · subst hb; rw [upd_same, upd_ne hd, upd_same]
      · rw [upd_ne hb]
        by_cases hb2 : b = a
        · subst hb2; rw [upd_same, upd_same]
        · rw [upd_ne hb2, upd_ne hb2, upd_ne hb, upd_ne hb]
    rw [e]; exact k
end
/-! ### C(e, ..), the context of the new exception being None -/
section
variable {X : Cx} {e : Expr} {es : List Expr} {ta : TA} {p pos : Pos}
theorem pmkN {CX : CXT} {x : Str} {C fI : Addr} {k : Nat} {fd : FuncData} {ps : List Str} {sp : Sp} {ds : List Value} {dvs : List V} (T : OexC X.K C) (iC : PySem.W.findIn X.K (.ref C) "__init__" = some (some (.ref fI))) (tI : PySem.W.typeIn X.K (.ref fI) = some (.type "function"))
    (F1 : FnOk X.prog X.w X.K X.mg X.base CX k fI fd ps sp) (hr : Room (k + 1) X.A) (hb : Binds X.K fd ps ds) (hd : Vals dvs ds) (hx : Passes CX X (fun _ _ _ => False)) (hg : Gl X x) (hm : X.mg x = some (.ref C)) (ha : PA X (e :: es) ta)
    (hdb : (x == ("__debug__" : Str)) = false := by decide) (he : starEach (e :: es) X.env = (false, eval e X.env) :: starEach es X.env := by rfl) (hpl : (backTo pos (starEach es X.env)).any (·.1) = false := by rfl) :
    L2N.PMk X (.Call (.Name x p) (e :: es) [] pos) (tMkO C sp dvs ta) := by
  intro pins s σ H Q I h
  obtain ⟨nm, q, N, bs, bm, sn, sub, ab, col, dd, k0, k1, k2, k3, k5, hC, hbm⟩ := T.cls
  refine wpAny_Call_Name_kw (ld_glob I hg hm ?_ hdb)
  refine PySem.W.callWith_K (h₀ := X.base) I.ok.mod.kin T.kC (thn (ha.run pos pins s σ H _ I h) fun us s1 ⟨vs, H1, I1, r1, hz, q1⟩ => ⟨I1.kIn, ?_⟩) he hpl
  show wpAny _ _ (call (.ref C) us) _ _ _
  obtain ⟨hp, g, dr, tk, os⟩ := s1
  have hsz : hp.objs.size ≤ hp.objs.size + 1 := Nat.le_succ _
  have hq := q1 (hp.objs.size + 1) (I1.hok.fresh hsz)
  have kk : ∀ b o, hp.get? b = some o → ((hp.push (PySem.W.kdv_tup us)).push (PySem.HandSPX.excO C hp.objs.size)).get? b = some o := fun b o e => Heap.get?_push_of_some _ (Heap.get?_push_of_some _ e)
  have hget : ((hp.push (PySem.W.kdv_tup us)).push (PySem.HandSPX.excO C hp.objs.size)).get? (hp.objs.size + 1) = some (PySem.HandSPX.excO C hp.objs.size) := by heap_get
  have I2 : Inv X pins σ (upd H1 (hp.objs.size + 1) (exo (hp.objs.size + 1) C none)) ⟨(hp.push (PySem.W.kdv_tup us)).push (PySem.HandSPX.excO C hp.objs.size), g, dr, tk, os⟩ :=
    I1.laid (t' := tk) (a := hp.objs.size + 1) (o := exo (hp.objs.size + 1) C none) (h' := (hp.push (PySem.W.kdv_tup us)).push (PySem.HandSPX.excO C hp.objs.size)) kk hsz (exo_ok hget)
  have r2 : Vals (V.ref (hp.objs.size + 1) :: (vs ++ dvs)) (Value.ref (hp.objs.size + 1) :: (us ++ ds)) := .cons rfl (r1.append hd)
  have hl : (Value.ref (hp.objs.size + 1) :: us ++ ds).length = ps.length := by
    have e := r2.length
    rw [F1.len _ _ _ _ hq] at e
    exact e.symm
  have hus : us.length ≤ sizeLine := by
    rw [← Paired.length r1, sizeLine_eq]
    omega
  refine wpAny_call (PySem.HandSPX.call_own F.excBase_ValueError (fun Y => PySem.HandSPX.refsVE_contains Y bm hbm) (I1.kIn _ _ hC) (PySem.W.looks_findIn I1.kIn iC) (fun self => PySem.W.bind_fn I1.kIn self tI) hus
    (codeAny_mono (F1.run _ X.stack _ _ ⟨Value.ref (hp.objs.size + 1) :: us, []⟩ (Value.ref (hp.objs.size + 1) :: (us ++ ds)) _ _ (fun _ _ _ => False) (hr.make C us []) (I2.env0.make C us []) (hb _ (Value.ref (hp.objs.size + 1) :: us) I2.kIn hl) r2 hq) fun r s' hq' => ?_))
  cases r with
  | error er => exact hx pins σ _ _ er s' I2 hq'
  | ok fl =>
    cases fl with
    | ret u =>
      obtain ⟨v, H2, os2, bare2, un2, hok2, rv, ev, d, fs, ea, ed, hd1, q2⟩ := hq'
      subst ev
      obtain ⟨h2, g2, d2, t2, os'⟩ := s'
      refine ⟨rv, ?_⟩
      obtain ⟨t0, G, J, kG, ge, hoe, na⟩ := mk_end0 (d2 := d2) (t2 := t2) I1 hsz kk un2 hok2 os2 bare2 ea ed hd1
      exact ⟨_, _, _, ⟨G, g2, d2, t2, os'⟩, _, .ref C, some d, rfl, J, kG, ge, hoe, ⟨rfl, rfl, fun vs e => by cases e; rfl⟩, rfl, rfl, na, rfl, bare2, raises_own T.exC T.tyC, q2⟩
    | next => exact False.elim hq'
    | brk => exact False.elim hq'
    | cont => exact False.elim hq'
end
/-! ### over data -/
/-- the fields, the last one set first: by a text, or by the i-th argument -/
def mkF {α : Type} (str : Str → α) (z : α) : List (Str × (Sum Str Nat)) → List α → List (Str × α)
  | [], _ => []
  | (f, .inl t) :: r, xs => (f, str t) :: mkF str z r xs
  | (f, .inr i) :: r, xs => (f, xs.getD i z) :: mkF str z r xs
theorem mkF_rp {K : PySem.W.Frag} {w : Wd} {ds : List D} {vs : List V} (r : RpL K w ds vs) : ∀ (fl : List (Str × (Sum Str Nat))), RpF K w (mkF D.str .non fl ds) (mkF V.str .non fl vs)
  | [] => rfl
  | (f, .inl t) :: l => ⟨_, _, rfl, rfl, mkF_rp r l⟩
  | (f, .inr i) :: l => by
    refine ⟨_, _, rfl, ?_, mkF_rp r l⟩
    cases e : ds[i]? with
    | none =>
      have e2 : vs[i]? = none := by
        have := r.length
        rw [List.getElem?_eq_none_iff] at e ⊢; omega
      simp only [List.getD, e, e2]; rfl
    | some d =>
      obtain ⟨v, e2, h⟩ := r.at e
      simp only [List.getD, e, e2]; exact h
/-- an own class of exceptions whose __init__ sets these fields -/
structure ExcD (P : Program) (w : World) (K : PySem.W.Frag) (mg : Str → Option Value) (base : Heap) (cl : Str → Addr) (n : Str) (m : Nat) (fl : List (Str × (Sum Str Nat))) : Prop where
  oex : OexC K (cl n)
  ini : ∃ fI fd ps, PySem.W.findIn K (.ref (cl n)) "__init__" = some (some (.ref fI)) ∧ PySem.W.typeIn K (.ref fI) = some (.type "function") ∧ FnOk P w K mg base CX0 1 fI fd ps (spIni (cl n) m (mkF V.str .non fl)) ∧ Binds K fd ps []
  glo : mg n = some (.ref (cl n))
section
variable {X : Cx} {c : Wd} {e : Expr} {es : List Expr} {tl : DA} {p pos : Pos} {n : Str} {m : Nat} {fl : List (Str × (Sum Str Nat))} {E : DXK}
@[simp] def dRaise (E : DXK) (n : Str) (m : Nat) (fl : List (Str × (Sum Str Nat))) (tl : DA) : DS := fun _ ρ M => tl ρ M fun ds M1 => (ds.length = m ∧ m ≤ 1000) ∧ E n (mkF D.str .non fl ds) M1
theorem pds_raise {cl : Str → Addr} (hcl : c.cl = cl) (hc : X.calm = true) (G : ExcD X.prog X.w X.K X.mg X.base cl n m fl) (hr : Room 2 X.A) (tk : Tk c X E) (ha : PDA c X (e :: es) tl) (hg : Gl X n := by rfl) (hdb : (n == ("__debug__" : Str)) = false := by decide)
    (he : starEach (e :: es) X.env = (false, eval e X.env) :: starEach es X.env := by rfl) (hpl : (backTo pos (starEach es X.env)).any (·.1) = false := by rfl) {rpos : Pos} : PDS c X (.Raise (some (.Call (.Name n p) (e :: es) [] pos)) none rpos) (dRaise E n m fl tl) := by
  obtain ⟨fI, fd, ps, h1, h2, h3, h4⟩ := G.ini
  subst hcl
  refine PS_imp (L2N.ps_raise hc tk (pmkN (dvs := []) G.oex h1 h2 h3 hr h4 .nil (fun _ _ _ _ _ _ _ z => z.elim) hg G.glo ha (hdb := hdb) (he := he) (hpl := hpl))) fun D0 σ H ⟨ρ, w, D', hH, a, h, k⟩ => ?_
  refine ⟨ρ, w, _, hH, a, h, fun ds w1 vs q b r => ⟨by rw [r.length, q.1.1]; exact q.1.2, fun ae hn => ?_⟩⟩
  refine ⟨ae, vs, by rw [List.append_nil], by rw [r.length]; exact q.1.1, upd_same, fun d hdn hda => ⟨rfl, d, mkF V.str .non fl vs, upd_same, ?_, ?_, ?_⟩⟩
  · unfold xfin; rw [upd_ne hda, upd_same]
  · rw [← hdn, upd_ne hda]
  · have hd1 : w1.H d = none := by rw [← hdn, upd_ne hda]
    have e1 : upd (del (xfin (upd w1.H ae (exo ae (c.cl n) none)) ae (c.cl n) d (mkF V.str .non fl vs)) ae) d (.xd (mkF V.str .non fl vs)) = upd w1.H d (.xd (mkF V.str .non fl vs)) := by
      funext x
      by_cases hx : x = d
      · subst hx; rw [upd_same, upd_same]
      · rw [upd_ne hx, upd_ne hx]
        by_cases hx2 : x = ae
        · subst hx2; rw [del_same, hn]
        · rw [del_ne hx2]; unfold xfin; rw [upd_ne hx2, upd_ne hx, upd_ne hx2]
    rw [e1]
    have b2 : Bh X.K w1 (w1.at (upd w1.H d (.xd (mkF V.str .non fl vs)))) := Bh.new b.ok hd1
    exact ⟨n, mkF D.str .non fl ds, w1.at (upd w1.H d (.xd (mkF V.str .non fl vs))), d, mkF V.str .non fl vs, rfl, rfl, rfl, (a.bh.trans b).trans b2, (b.ok.fresh hd1).at, upd_same, RpF.mono b2.kp (mkF_rp r fl), q.2⟩
end
end DL
/-! The data layer, part h: try with one clause of two classes, what its suite reads. -/
namespace DL
open PySem L2
theorem flying_push {B h : Heap} {l : List Env} {a : Addr} {Z : Obj → Prop} (f : HandSPX.FlyingZ B l a Z h) (o : Obj) : HandSPX.FlyingZ B l a Z (h.push o) := by
  obtain ⟨k1, k2, k3, oe, vs, T, oT, ts, he, hz, hd, h1, hn, hne, hT, hdT, h3⟩ := f
  exact ⟨fun b u e => Heap.get?_push_of_some _ (k1 b u e), k2, k3.of_keeps fun b u e _ => ⟨u, Heap.get?_push_of_some _ e, rfl⟩, oe, vs, T, oT, ts, Heap.get?_push_of_some _ he, hz, hd, h1, hn, hne, Heap.get?_push_of_some _ hT, hdT, h3⟩
/-- what the clause wishes of an exception: it is caught -/
def wTwo (K : PySem.W.Frag) (c1 c2 : Value) (i : Nat) (ts : Addr → Value → Option Addr → TS) (D : Ends) : WX := fun cls d σ H => PySem.W.exmAny K cls [c1, c2] = some true ∧
  ∀ a, H a = none → ts a cls d { nx := fun σ' H' => D.nx (σ'.set i none) H', rt := D.rt, bk := fun σ' H' => D.bk (σ'.set i none) H', ct := fun σ' H' => D.ct (σ'.set i none) H' } (σ.set i (some (.ref a))) H
section
variable {X : Cx} {x1 x2 n : Str} {c1 c2 : Value} {i kk : Nat} {body suite : List Stmt} {b₀ : Stmt} {p1 p2 tpos pos pos' : Pos} {tb : WX → TS} {ts : Addr → Value → Option Addr → TS}
theorem ps_try_two (hs : X.stack = X.env :: X.outer) (hf : X.env.frame = some X.env.locals) (hN : X.N.Nodup) (hi : X.N[i]? = some n) (hln : X.env.kindOf n = some .local) (h1 : Names X x1 c1) (h2 : Names X x2 c2)
    (hb : ∀ (W : WX) (pn : List (Addr × Obj)) (xe : Value → Shared → Prop), L2N.Takes (X.tr pn xe) W → PassesOwn (model X.prog X.w) X.A X.env xe → PSs (X.tr pn xe) body (tb W))
    (hsu : ∀ (a : Addr) (oe : Obj) (cls : Value) (d : Option Addr) (pn : List (Addr × Obj)), L2N.Zn cls d oe → (∃ vs, oe.data = .fields vs) → PSs (X.suite a ((a, oe) :: pn)) (b₀ :: suite) (ts a cls d)) :
    PS X (.Try body [.ExceptHandler (some (.Tuple [.Name x1 p1, .Name x2 p2] kk tpos)) (some n) (b₀ :: suite) pos'] [] [] pos) (fun D σ H => tb (wTwo X.K c1 c2 i ts D) D σ H) := by
  refine ⟨fun pins s σ H D I h => ?_⟩
  have ok := I.ok
  have hfr : X.A.frames = some (X.env :: X.outer) := by rw [ok.frames, hs]
  refine wpAny_Try_except (wpAny_mono ((hb (wTwo X.K c1 c2 i ts D) (X.pn ++ pins) (fun e s₁ => wpAny (model X.prog X.w) X.A (noteFrame e X.env) (fun _ s₂ => wpAny (model X.prog X.w) X.A (setFlight e none) (fun _ s₃ =>
    wpAny (model X.prog X.w) X.A (handleBy e X.env [.ExceptHandler (some (.Tuple [.Name x1 p1, .Name x2 p2] kk tpos)) (some n) (b₀ :: suite) pos']) (SP X pins D) X.xe s₃) X.xe s₂) X.xe s₁) (fun u s' xx => ?_) PassesOwn.looking).run [] s σ H D (I.toTry _) h) (fun f s1 hsp => ?_) (fun e s1 he => he))
  · obtain ⟨a, B, sI, pins', σ', H', cls, d, rfl, J', nb, up, sky, na, os, ag, hcl, hyes⟩ := xx
    have J : Inv X pins σ' H' sI := J'.ofTry ok
    have sky' : Sky B (X.env :: X.outer) a (L2N.Zn cls d) X.env.locals s'.heap := by rw [← hs]; exact sky
    show wpAny (model X.prog X.w) X.A (noteFrame (.ref a) X.env) _ _ _
    refine L2N.Sky.land L2N.Zn.steady hfr hf sky' fun h3 fl3 up3 => ?_
    have J3 : Inv X pins σ' H' { s' with heap := h3 } := J.landed nb fl3.1 (up.trans up3) os ag
    obtain ⟨oe3, vs3, he3, hz3, hd3⟩ := fl3.there
    have nfr : a ∉ frs (X.env :: X.outer) := fun hm => by
      obtain ⟨_, o', e', hnf⟩ := fl3.2.2.1.mem hm
      rw [he3] at e'; cases e'
      exact hnf _ hd3
    have nL : a ≠ X.env.locals := fun z => nfr (List.mem_filterMap.mpr ⟨X.env, List.mem_cons_self, by rw [hf, z]⟩)
    have nF : a ∉ X.fs := fun hm => by
      obtain ⟨e, he, q⟩ := List.mem_filterMap.mp hm
      exact nfr (List.mem_filterMap.mpr ⟨e, List.mem_cons_of_mem _ he, q⟩)
    have S3 := J3.suite he3 hd3 na nL nF
    refine wpAny_handleBy_cons (codeAny_handlers_test ?_) (by intro q; cases q)
    have look : ∀ {x : Str} {c : Value} {p : Pos} {Q : Value → Shared → Prop} {E : Value → Shared → Prop}, Names X x c → Q c { s' with heap := h3 } → wpAny (model X.prog X.w) (X.A.mark (some (.ref a))) (eval (.Name x p) X.env) Q E { s' with heap := h3 } := fun {x c p Q E} hc q => by
      obtain ⟨hg, hdbg, hm | ⟨hm, hv, hnn⟩⟩ := hc
      · exact ld_glob (X := X.suite a ((a, oe3) :: (X.pn ++ pins))) S3 hg hm q hdbg
      · exact ld_blt (X := X.suite a ((a, oe3) :: (X.pn ++ pins))) S3 hg hm hv q hnn hdbg
    refine PyProof.Rows.Tuple_ (PyProof.Rows.spliced_more (look h1 (PyProof.Rows.spliced_more (look h2 (PyProof.Rows.spliced_none ?_)))))
    refine wpAny_newObj_type ?_
    have fl5 := flying_push fl3 { cls := .type "tuple", dict := none, data := .seq [c1, c2].toArray }
    have up5 : h3.UpToSlots (h3.push { cls := .type "tuple", dict := none, data := .seq [c1, c2].toArray }) := Heap.UpToSlots.of_keeps fun b o e => Heap.get?_push_of_some _ e
    have J5 : Inv X pins σ' H' { s' with heap := h3.push { cls := .type "tuple", dict := none, data := .seq [c1, c2].toArray } } := J.landed nb fl5.1 ((up.trans up3).trans up5) os ag
    have LT : PySem.W.Looks (model X.prog X.w) (h3.push { cls := .type "tuple", dict := none, data := .seq [c1, c2].toArray }) (typeOf (.ref a)) cls := fun A Q E s k q => wpAny_typeOf_ref (k _ _ (Heap.get?_push_of_some _ he3)) (by rw [hz3.1]; exact q)
    have LM := PySem.W.exm_tup2 (M := model X.prog X.w) (tp := h3.objs.size) (J5.kIn) LT (Heap.get?_push_size _ rfl) hcl
    refine LM.here ?_
    refine codeAny_handlers_suite_as ?_
    refine HandSPX.lands_againZ (s := { s' with heap := h3.push { cls := .type "tuple", dict := none, data := .seq [c1, c2].toArray } }) fl5 fun h4 fl4 up4 => ?_
    have J4 : Inv X pins σ' H' { s' with heap := h4 } := J.landed nb fl4.1 (((up.trans up3).trans up5).trans up4) os ag
    obtain ⟨oe4, vs4, he4, hz4, hd4⟩ := fl4.there
    have S4 := J4.suite he4 hd4 na nL nF
    refine store_ok (X := X.suite a ((a, oe4) :: (X.pn ++ pins))) (v := .ref a) S4 hN hi (.inl hln) rfl (fun s5 S5 => ?_) (.inr hln)
    refine wpAny_mono ((hsu a oe4 cls d (X.pn ++ pins) hz4 ⟨_, hd4⟩).run [] s5 _ H' _ S5 (hyes a na)) (fun f s6 hsp => ?_) (fun _ _ z => False.elim z)
    have end_ : ∀ {σ6 : St} {H6 : Hp} {Q : Shared → Prop}, Inv (X.suite a ((a, oe4) :: (X.pn ++ pins))) [] σ6 H6 s6 → (∀ s7, Inv X pins (σ6.set i none) H6 s7 → Q s7) →
        wpAny (model X.prog X.w) X.A (do bindName X.env n .none; unbindBehindTheSuite X.env n pos') (fun _ s7 => Q s7) X.xe s6 := fun {σ6 H6 Q} S6 hq => gone_ok (S6.unsuite ok) hN hi hln hq
    cases f with
    | next => obtain ⟨σ6, H6, S6, q6⟩ := hsp; exact end_ S6 fun s7 J7 => ⟨_, _, J7, q6⟩
    | brk => obtain ⟨σ6, H6, S6, q6⟩ := hsp; exact end_ S6 fun s7 J7 => ⟨_, _, J7, q6⟩
    | cont => obtain ⟨σ6, H6, S6, q6⟩ := hsp; exact end_ S6 fun s7 J7 => ⟨_, _, J7, q6⟩
    | ret u => obtain ⟨v6, σ6, H6, S6, r6, q6⟩ := hsp; exact end_ S6 fun s7 J7 => ⟨_, _, _, J7, r6, q6⟩
  · cases f with
    | next => obtain ⟨σ', H', J', q⟩ := hsp; exact wpAny_execs_nil ⟨σ', H', J'.ofTry ok, q⟩
    | brk => obtain ⟨σ', H', J', q⟩ := hsp; exact ⟨σ', H', J'.ofTry ok, q⟩
    | cont => obtain ⟨σ', H', J', q⟩ := hsp; exact ⟨σ', H', J'.ofTry ok, q⟩
    | ret u => obtain ⟨v, σ', H', J', r, q⟩ := hsp; exact ⟨v, σ', H', J'.ofTry ok, r, q⟩
end
end DL
/-! The data layer, part i: the handled exception over data; try. -/
namespace DL
open PySem L2
/-! ### no exception within -/
mutual
def noX : D → Bool
  | .exc _ _ => false
  | .lst _ xs => noXL xs
  | .tup xs => noXL xs
  | .dct kvs => noXK kvs
  | .obj _ fs => noXF fs
  | _ => true
def noXL : List D → Bool
  | [] => true
  | x :: xs => noX x && noXL xs
def noXK : List (D × D) → Bool
  | [] => true
  | (_, x) :: xs => noX x && noXK xs
def noXF : List (Str × D) → Bool
  | [] => true
  | (_, x) :: xs => noX x && noXF xs
end
def noXM : MO → Bool
  | .lst ds => noXL ds
  | .dK kvs => noXK (kvs.map fun p => (keyD p.1, p.2))
  | .dT kvs => noXK (kvs.map fun p => (tkeyD p.1, p.2))
  | .ins _ fs => noXF fs
  | _ => true
abbrev Wd.exs (w : Wd) (e : Option (Addr × Addr × Addr)) : Wd := { w with ex := e }
section
variable {K : PySem.W.Frag} {w : Wd} {e : Option (Addr × Addr × Addr)}
theorem Fr.exs {a : Addr} (h : Fr w a) : Fr (w.exs e) a := ⟨h.m, h.h, h.l⟩
theorem LsAt.exs {r : Nat} {a : Addr} {xs : List V} (h : LsAt w r a xs) : LsAt (w.exs e) r a xs := ⟨h.1, h.2.elim (fun z => .inl ⟨z.1, z.2.exs⟩) fun z => .inr z⟩
theorem TuAt.exs {a : Addr} {xs : List V} (h : TuAt K w a xs) : TuAt K (w.exs e) a xs := h.elim (fun z => .inl ⟨z.1.exs, z.2⟩) fun z => .inr z
mutual
theorem Rp.exs : ∀ {d : D} {v : V}, noX d = true → Rp K w d v → Rp K (w.exs e) d v
  | .non, _, _, h => h
  | .bl _, _, _, h => h
  | .int _, _, _, h => h
  | .str _, _, _, h => h
  | .ref _, _, _, h => h
  | .ty _, _, _, h => h
  | .cls _, _, _, h => h
  | .scr ns, v, _, h => by
    obtain ⟨a, rfl, h1⟩ := h
    exact ⟨a, rfl, h1.elim (fun z => .inl ⟨z.1.exs, z.2⟩) fun z => .inr z⟩
  | .lst _ ds, v, n, h => by
    obtain ⟨a, xs, rfl, hl, hr⟩ := h
    exact ⟨a, xs, rfl, hl.exs, RpL.exs n hr⟩
  | .tup ds, v, n, h => by
    obtain ⟨a, xs, rfl, hl, hr⟩ := h
    exact ⟨a, xs, rfl, hl.exs, RpL.exs n hr⟩
  | .dct kvs, v, n, h => by
    obtain ⟨a, rfl, hm, hl⟩ := h
    rcases hl with ⟨ks, h1, h2⟩ | ⟨ks, h1, h2⟩
    · exact ⟨a, rfl, hm.exs, .inl ⟨ks, h1, RpK.exs n h2⟩⟩
    · exact ⟨a, rfl, hm.exs, .inr ⟨ks, h1, RpK.exs n h2⟩⟩
  | .obj C fs, v, n, h => by
    obtain ⟨a, dx, vs, rfl, hm, h1, h2⟩ := h
    exact ⟨a, dx, vs, rfl, hm.exs, h1, RpF.exs n h2⟩
  | .exc C fs, v, n, h => by cases n
theorem RpL.exs : ∀ {ds : List D} {vs : List V}, noXL ds = true → RpL K w ds vs → RpL K (w.exs e) ds vs
  | [], _, _, h => h
  | d :: ds, vs, n, h => by
    obtain ⟨x, r, rfl, h1, h2⟩ := h
    rw [noXL, Bool.and_eq_true] at n
    exact ⟨x, r, rfl, Rp.exs n.1 h1, RpL.exs n.2 h2⟩
theorem RpK.exs : ∀ {ds : List (D × D)} {vs : List (D × V)}, noXK ds = true → RpK K w ds vs → RpK K (w.exs e) ds vs
  | [], _, _, h => h
  | (q, d) :: ds, vs, n, h => by
    obtain ⟨x, r, rfl, h1, h2⟩ := h
    rw [noXK, Bool.and_eq_true] at n
    exact ⟨x, r, rfl, Rp.exs n.1 h1, RpK.exs n.2 h2⟩
theorem RpF.exs : ∀ {ds : List (Str × D)} {vs : List (Str × V)}, noXF ds = true → RpF K w ds vs → RpF K (w.exs e) ds vs
  | [], _, _, h => h
  | (q, d) :: ds, vs, n, h => by
    obtain ⟨x, r, rfl, h1, h2⟩ := h
    rw [noXF, Bool.and_eq_true] at n
    exact ⟨x, r, rfl, Rp.exs n.1 h1, RpF.exs n.2 h2⟩
end
mutual
theorem Rp.noX (hx : w.ex = none) : ∀ {d : D} {v : V}, Rp K w d v → noX d = true
  | .non, _, _ => rfl
  | .bl _, _, _ => rfl
  | .int _, _, _ => rfl
  | .str _, _, _ => rfl
  | .ref _, _, _ => rfl
  | .ty _, _, _ => rfl
  | .cls _, _, _ => rfl
  | .scr ns, v, _ => rfl
  | .lst _ ds, v, h => by obtain ⟨a, xs, rfl, hl, hr⟩ := h; exact RpL.noX hx hr
  | .tup ds, v, h => by obtain ⟨a, xs, rfl, hl, hr⟩ := h; exact RpL.noX hx hr
  | .dct kvs, v, h => by
    obtain ⟨a, rfl, hm, hl⟩ := h
    rcases hl with ⟨ks, h1, h2⟩ | ⟨ks, h1, h2⟩
    · exact RpK.noX hx h2
    · exact RpK.noX hx h2
  | .obj C fs, v, h => by obtain ⟨a, dx, vs, rfl, hm, h1, h2⟩ := h; exact RpF.noX hx h2
  | .exc C fs, v, h => by
    obtain ⟨a, dd, vs, _, h1, _⟩ := h
    rw [hx] at h1; cases h1
theorem RpL.noX (hx : w.ex = none) : ∀ {ds : List D} {vs : List V}, RpL K w ds vs → noXL ds = true
  | [], _, _ => rfl
  | d :: ds, vs, h => by
    obtain ⟨x, r, rfl, h1, h2⟩ := h
    rw [noXL, Rp.noX hx h1, RpL.noX hx h2]; rfl
theorem RpK.noX (hx : w.ex = none) : ∀ {ds : List (D × D)} {vs : List (D × V)}, RpK K w ds vs → noXK ds = true
  | [], _, _ => rfl
  | (q, d) :: ds, vs, h => by
    obtain ⟨x, r, rfl, h1, h2⟩ := h
    rw [noXK, Rp.noX hx h1, RpK.noX hx h2]; rfl
theorem RpF.noX (hx : w.ex = none) : ∀ {ds : List (Str × D)} {vs : List (Str × V)}, RpF K w ds vs → noXF ds = true
  | [], _, _ => rfl
  | (q, d) :: ds, vs, h => by
    obtain ⟨x, r, rfl, h1, h2⟩ := h
    rw [noXF, Rp.noX hx h1, RpF.noX hx h2]; rfl
end
theorem Ok.noX (o : Ok K w) (hx : w.ex = none) : ∀ x m, w.M x = some m → noXM m = true := fun x m h => by
  have z := o.mo x m h
  cases m with
  | lst ds => obtain ⟨_, _, r⟩ := z; exact RpL.noX hx r
  | bag => rfl
  | dK kvs => obtain ⟨_, _, r, _⟩ := z; exact RpK.noX hx r
  | dT kvs => obtain ⟨_, _, r, _⟩ := z; exact RpK.noX hx r
  | ins C fs => obtain ⟨_, _, _, r⟩ := z; exact RpF.noX hx r
theorem Ok.exs (o : Ok K w) (h : ∀ x m, w.M x = some m → noXM m = true) : Ok K (w.exs e) := by
  refine ⟨fun x m q => ?_, o.hid, o.ap, o.len, o.lap, o.lfr, o.hl, o.ll, o.tabs⟩
  have z := o.mo x m q
  have n := h x m q
  cases m with
  | lst ds => obtain ⟨xs, h1, r⟩ := z; exact ⟨xs, h1, RpL.exs n r⟩
  | bag => obtain ⟨c, cs, i, r, m, h1, h2, h3⟩ := z; exact ⟨c, cs, i, r, m, h1, h2.exs, h3⟩
  | dK kvs => obtain ⟨ks, h1, r, h2⟩ := z; exact ⟨ks, h1, RpK.exs n r, h2⟩
  | dT kvs => obtain ⟨ks, h1, r, h2⟩ := z; exact ⟨ks, h1, RpK.exs n r, h2⟩
  | ins C fs => obtain ⟨dx, vs, h1, r⟩ := z; exact ⟨dx, vs, h1, RpF.exs n r⟩
/-- the world with the exception, and back -/
theorem Kp.exback {w w2 : Wd} (k : Kp (w.exs e) w2) : Kp w (w2.exs w.ex) := ⟨fun a u hf q n => by
  obtain ⟨h1, h2⟩ := k.fr a u hf.exs q n
  exact ⟨h1.exs, h2⟩, k.ln, rfl, k.cl, k.tb⟩
end
theorem At.from {K : PySem.W.Frag} {c w w' : Wd} {ρ ρ' : DEnv} {σ σ' : St} (a : At K c w ρ σ) (b : At K w w' ρ' σ') : At K c w' ρ' σ' := ⟨a.kp.trans b.kp, b.re, b.ok, b.hd.trans a.hd, b.ln.trans a.ln⟩
@[simp] def dTry2 (names : List Str) (i len : Nat) (tB : DXK → DS) (tS : DS) : DS := fun D ρ M => tB (fun n fs M' => n ∈ names ∧ tS { nx := fun _ _ => False, rt := fun d M'' => M'' = M' ∧ noX d = true ∧ D.rt d M'' } ((List.replicate len none).set i (some (.exc n fs))) M') D ρ M
section
variable {X : Cx} {c : Wd} {x1 x2 n : Str} {c1 c2 : Value} {i kk : Nat} {body suite : List Stmt} {b₀ : Stmt} {p1 p2 tpos pos pos' : Pos} {names : List Str} {tB : DXK → DS} {tS : DS}
theorem pds_try2 (hcat : ∀ n ∈ names, PySem.W.exmAny X.K (.ref (c.cl n)) [c1, c2] = some true) (hex : c.ex = none) (hN : X.N.Nodup) (h1 : Names X x1 c1) (h2 : Names X x2 c2)
    (hb : ∀ (cb : Wd) (E' : DXK) (pn : List (Addr × Obj)) (xe : Value → Shared → Prop), Kp c cb → Tk cb (X.tr pn xe) E' → PassesOwn (model X.prog X.w) X.A X.env xe → PDSs cb (X.tr pn xe) body (tB E'))
    (hsu : ∀ (c' : Wd) (a : Addr) (oe : Obj) (m : Str) (dd : Addr) (pn : List (Addr × Obj)), c'.cl = c.cl → c'.tb = c.tb → c'.ex = some (a, c'.cl m, dd) → L2N.Zn (.ref (c'.cl m)) (some dd) oe → (∃ vs, oe.data = .fields vs) → PDSs c' (X.suite a ((a, oe) :: pn)) (b₀ :: suite) tS)
    (hs : X.stack = X.env :: X.outer := by rfl) (hf : X.env.frame = some X.env.locals := by rfl) (hi : X.N[i]? = some n := by rfl) (hln : X.env.kindOf n = some .local := by rfl) :
    PDS c X (.Try body [.ExceptHandler (some (.Tuple [.Name x1 p1, .Name x2 p2] kk tpos)) (some n) (b₀ :: suite) pos'] [] [] pos) (dTry2 names i X.N.length tB tS) := by
  refine PS_imp (ps_try_two hs hf hN hi hln h1 h2
    (tb := fun W D σ H => ∃ (cb : Wd) (E' : DXK), Kp c cb ∧ (∀ cls d σ' H', σ'.length = X.N.length → XKof X.K cb E' cls d H' → W cls d σ' H') ∧ liftS X.K cb (tB E') D σ H)
    (ts := fun a cls d D σ H => ∃ (m : Str) (dd : Addr) (c' : Wd), cls = .ref (c'.cl m) ∧ d = some dd ∧ c'.cl = c.cl ∧ c'.tb = c.tb ∧ c'.ex = some (a, c'.cl m, dd) ∧ liftS X.K c' tS D σ H) (fun W pn xe tk hp => ?_) (fun a oe cls d pn hz hv => ?_)) fun D0 σ H ⟨ρ, w, D', hH, a, h, k⟩ => ?_
  · refine ⟨fun pins s σ H D0 I ⟨cb, E', e1, hW, q⟩ => (hb cb E' pn xe e1 (fun u s' ⟨a, B, sI, pins, σ, H, cls, d, e, I, nb, up, sky, na, os, ag, w⟩ => tk u s' ⟨a, B, sI, pins, σ, H, cls, d, e, I, nb, up, sky, na, os, ag, hW cls d σ H I.len w⟩) hp).run pins s σ H D0 I q⟩
  · refine ⟨fun pins s σ H D0 I ⟨m, dd, c', e1, e2, e3, e5, e4, q⟩ => ?_⟩
    subst e1 e2
    exact (hsu c' a oe m dd pn e3 e5 e4 hz hv).run pins s σ H D0 I q
  · have wcl : w.cl = c.cl := a.kp.cl
    have wex : w.ex = none := a.kp.ex.trans hex
    refine ⟨w, fun n fs M' => n ∈ names ∧ tS { nx := fun _ _ => False, rt := fun d M'' => M'' = M' ∧ noX d = true ∧ D'.rt d M'' } ((List.replicate X.N.length none).set i (some (.exc n fs))) M', a.kp, fun cls d σ' H' hl hx => ?_, ρ, w, D', hH, a.self, h, ?_⟩
    · obtain ⟨m, fs, w', dd, vs, rfl, rfl, rfl, b, fr, hx, r, hm, q⟩ := hx
      have w'cl : w'.cl = w.cl := b.kp.cl
      have w'ex : w'.ex = none := b.kp.ex.trans wex
      refine ⟨by rw [wcl]; exact hcat m hm, fun ae hae => ⟨m, dd, w'.exs (some (ae, w.cl m, dd)), by show _ = Value.ref (w'.cl m); rw [w'cl], rfl, w'cl.trans wcl, (b.kp.tb.trans a.kp.tb), by show some (ae, w.cl m, dd) = some (ae, w'.cl m, dd); rw [w'cl], ?_⟩⟩
      have hil : i < X.N.length := (List.getElem?_eq_some_iff.mp hi).1
      refine ⟨_, w'.exs (some (ae, w.cl m, dd)), _, rfl, ⟨Kp.refl _, ⟨by simp [hl], fun j d hj => ?_⟩, b.ok.exs (b.ok.noX w'ex), rfl, rfl⟩, q, ?_⟩
      · by_cases hji : i = j
        · subst hji
          rw [List.getElem?_set_self (by simpa using hil)] at hj
          obtain rfl : D.exc m fs = d := by simpa using hj
          refine ⟨.ref ae, by rw [List.getElem?_set_self (by omega)], ae, dd, vs, rfl, ?_, fr.exs, hx, RpF.exs (RpF.noX w'ex r) r⟩
          show some (ae, w.cl m, dd) = some (ae, w'.cl m, dd)
          rw [w'cl]
        · rw [List.getElem?_set_ne hji, List.getElem?_replicate] at hj
          split at hj <;> cases hj
      · refine { nx := fun _ _ _ q => q.elim, rt := fun d w2 v ⟨q1, q2, q3⟩ b2 r2 => ?_, bk := fun _ _ _ q => q.elim, ct := fun _ _ _ q => q.elim }
        refine k.rt d (w2.exs none) v q3 ?_ (r2.exs q2)
        have kk := b2.kp.exback
        rw [w'ex] at kk
        refine ⟨b.kp.trans kk, b2.ok.exs fun x m' hxm => ?_, b2.hd.trans b.hd, b2.ln.trans b.ln⟩
        have hxm' : w'.M x = some m' := by
          have : w2.M = w'.M := q1
          rw [← this]; exact hxm
        exact b.ok.noX w'ex x m' hxm'
    · exact { nx := fun ρ' w' σ' q b' a' => k.nx ρ' w' σ' q b' (a.from a'), rt := k.rt, bk := fun ρ' w' σ' q b' a' => k.bk ρ' w' σ' q b' (a.from a'), ct := fun ρ' w' σ' q b' a' => k.ct ρ' w' σ' q b' (a.from a') }
/-! ### e.f of the handled exception -/
theorem rpF_lookup {K : PySem.W.Frag} {w : Wd} {f : Str} {d : D} : ∀ {fs : List (Str × D)} {vs : List (Str × V)}, RpF K w fs vs → fs.lookup f = some d → ∃ v, vs.lookup f = some v ∧ Rp K w d v
  | [], vs, r, h => by cases h
  | (g, e) :: fs, vs, r, h => by
    obtain ⟨x, q, rfl, r1, r2⟩ := r
    rw [List.lookup] at h ⊢
    cases hg : f == g with
    | true => rw [hg] at h; cases h; exact ⟨x, rfl, r1⟩
    | false => rw [hg] at h; exact rpF_lookup r2 h
theorem pe_xfP {X : Cx} {a C : Addr} {oe : Obj} {d : Option Addr} {e : Expr} {te : TE} {pos : Pos} {n : Str} (hp : (a, oe) ∈ X.pn) (hz : Zc (.ref C) d oe) (hf : ∃ vs, oe.data = .fields vs) (he : PE X e te) (hb : attributeBase e n X.env (eval e X.env) = eval e X.env := by rfl) :
    PE X (.Attribute e n pos) (fun σ H Q => te σ H fun x H1 => x = .ref a ∧ (XfC X.K C ∧ PySem.W.findIn X.K (.ref C) n = some none) ∧ ∃ (dd : Addr) (fs : List (Str × V)) (v : V), d = some dd ∧ H1 dd = some (.xd fs) ∧ fs.lookup n = some v ∧ Q v H1) := by
  refine ⟨fun pins s σ H Q I h => ?_⟩
  refine attr_of hb (thn (he.run pins s σ H _ I h) fun u s1 hh => ?_)
  obtain ⟨x, H1, I1, rx, ex, ⟨T, hno⟩, dd, fs, v, ed, ea, l, q⟩ := hh
  subst ex
  obtain rfl : u = Value.ref a := rx
  subst ed
  obtain ⟨ha, _⟩ := I1.pin (a, oe) (List.mem_append_left _ hp)
  obtain ⟨vs, hd⟩ := hf
  have hx : ObjOk X.prog X.w H1 s1.heap dd (.xd fs) := I1.hok dd _ ea
  obtain ⟨mA, hns, hr⟩ := hx
  obtain ⟨od, ho, hl⟩ := lookIn_ns hns
  obtain ⟨u, hu, ru⟩ := RelO.some_of (v := v) (o := mA n) (by rw [← l]; exact hr n)
  have J : PySem.W.InstAt s1.heap a oe C (some od) := ⟨ha, hz.1, by unfold PySem.W.notCls; rw [hd] <;> rfl, by rw [hz.2]; exact ho⟩
  exact HandSPX.exc_get I1.kIn J T.ga T.gg T.exC (PySem.W.findObj_own T.hdC hno rfl (by rw [hl, hu])) (handed_of ru) ⟨v, H1, I1.tok _, ru, q⟩
@[simp] def dXf (names : List Str) (f : Str) (te : DE) : DE := fun ρ M Q => te ρ M fun d M1 => match d with
  | .exc n fs => n ∈ names ∧ (match fs.lookup f with | some d' => Q d' M1 | none => False)
  | _ => False
theorem pd_xf {a : Addr} {oe : Obj} {m : Str} {dd : Addr} {e : Expr} {te : DE} {f : Str} (hx : ∀ n ∈ names, XfC X.K (c.cl n) ∧ PySem.W.findIn X.K (.ref (c.cl n)) f = some none) (hex : c.ex = some (a, c.cl m, dd)) (hp : (a, oe) ∈ X.pn) (hz : L2N.Zn (.ref (c.cl m)) (some dd) oe) (hf : ∃ vs, oe.data = .fields vs)
    (he : PD c X e te) (hb : attributeBase e f X.env (eval e X.env) = eval e X.env := by rfl) : PD c X (.Attribute e f pos) (dXf names f te) :=
  PE_imp (pe_xfP hp hz.zc hf he hb) fun σ H Q ⟨ρ, w, Q', hH, a', h, k⟩ => ⟨ρ, w, _, hH, a', h, fun d w1 v q b r => by
    cases d with
    | exc n fs =>
      obtain ⟨hn, q⟩ := q
      obtain ⟨ae, dd', vs, rfl, e1, fr, e2, r2⟩ := r
      have w1ex : w1.ex = some (a, c.cl m, dd) := (b.kp.ex.trans a'.kp.ex).trans hex
      have w1cl : w1.cl = c.cl := b.kp.cl.trans a'.kp.cl
      rw [w1ex, w1cl] at e1
      injection e1 with e1
      injection e1 with e3 e4
      injection e4 with e4 e5
      subst e3 e5
      refine ⟨rfl, by rw [e4]; exact hx n hn, dd, vs, ?_⟩
      cases hl : fs.lookup f with
      | none => rw [hl] at q; exact q.elim
      | some d' =>
        rw [hl] at q
        obtain ⟨v', h1, h2⟩ := rpF_lookup r2 hl
        exact ⟨v', rfl, e2, h1, k d' w1 v' q b h2⟩
    | _ => exact q.elim⟩
end
end DL
/-! The data layer, part j: defs called while an exception is handled. -/
namespace DL
open PySem L2 L2H PyProof.Rows
structure FnHp (P : Program) (w : World) (K : PySem.W.Frag) (mg : Str → Option Value) (base : Heap) (CX : CXT) (k : Nat) (f : Addr) (fd : FuncData) (ps : List Str) (sp : Addr × Obj → Sp) : Prop where
  len : ∀ p vs H Q E, sp p vs H Q E → vs.length = ps.length
  run : ∀ (A : Around) (outer : List Env) (s : Shared) (H : Hp) (args : Args) (us : List Value) (vs : List V) (Q : VK) (E : XK) (p : Addr × Obj), RoomH k A → Hot1 A p → PinOk outer H s p → Env0 P w K mg base A outer s H → BindsTo s fd args (ps.zip us) → Vals vs us → sp p vs H Q E →
    codeAny (model P w) A (.call (.ref f) args) (CR CX outer P w H s Q E) s
theorem fn_ofHp {CX : CXT} {P : Program} {w : World} {K : PySem.W.Frag} {mg : Str → Option Value} {base : Heap} {k : Nat} {f : Addr} {x qual : Str} {params : Arguments} {body : List Stmt} {scope : Scope} {dvs : List V} {kws : List (Str × V)} {fd : FuncData} {N ps : List Str} {sp : Addr × Obj → Sp}
    (F : FunD K x qual params body scope dvs kws f fd) (S : FnScope N ps scope) (len : ∀ p vs H Q E, sp p vs H Q E → vs.length = ps.length)
    (hbody : ∀ (cdv : Value) (A : Around) (outer : List Env) (s : Shared) (H : Hp) (vs : List V) (Q : VK) (E : XK) (p : Addr × Obj), RoomH k (A.deeper (envOfC qual scope s.heap.objs.size f cdv)) → sp p vs H Q E →
      ∃ t, PSs (cxH CX P w K mg base N qual scope f cdv A outer s H E p) body t ∧ t { nx := fun _ H' => Q .non H', rt := Q } (L2.start N vs) H) : FnHp P w K mg base CX (k + 1) f fd ps sp := by
  refine ⟨len, fun A outer s H args us vs Q E p hr hot hpin e0 hb r hsp => ?_⟩
  obtain ⟨oc, od, dV, kV, doc, pm, an, cdv, ct, osl, rfl, lk, hcd, _, _⟩ := F.ex
  have hl := len _ _ _ _ _ hsp
  have KX : K.In s.heap := e0.mod.kin.keeps fun b o e => (e0.bs b o e).1
  have lim : s.heap.NoLimit := e0.mod.nolimit.keeps fun b o e => (e0.bs b o e).1
  have hkind : ∀ y ∈ ps.zip us, scope.names.lookup y.1 = some .local ∨ (scope.names.lookup y.1 = some .cell ∧ ((cellsFrom (s.heap.objs.size + 1) scope.names []).lookup y.1).isSome = true) := fun ⟨n, v⟩ hy => by
    rcases S.par n (List.of_mem_zip hy).1 with q | q
    · exact .inl q
    · exact .inr ⟨q, PySem.W.cellsFrom_some _ _ _ (.inl q)⟩
  refine codeAny_call_function hr.depth (KX _ _ lk) rfl S.co S.gen rfl (PySem.W.codeRec_of KX hcd) (hb _ _ _ _ ?_)
  refine wpAny_newFunctionEnv_cells S.kind hkind fun env he s1 x => ?_
  subst he
  refine ⟨lim.keeps x.toInCall.keep, codeAny_func ?_⟩
  obtain ⟨t, ht, hq⟩ := hbody cdv A outer s H vs Q E p (hr.deeper _) hsp
  have I : Inv (cxH CX P w K mg base N qual scope f cdv A outer s H E p) [] (L2.start N vs) H s1 := inv_startH S hpin e0 hl r x
  refine wpAny_mono (ht.run [] s1 (L2.start N vs) H _ I hq) (fun fl s' hs => ?_) fun e s' hs => hs
  have fin : ∀ {σ' : L2.St} {H' : Hp} {v : V} {u : Value}, Inv (cxH CX P w K mg base N qual scope f cdv A outer s H E p) [] σ' H' s' → RelV v u → Q v H' → CE outer P w H s Q u s' :=
    fun {σ' H' v u} J rv q => ⟨v, H', J.os, J.bare, J.base, J.hok, rv, q⟩
  cases fl with
  | ret u => obtain ⟨v, σ', H', J, rv, q⟩ := hs; exact fin J rv q
  | next => obtain ⟨σ', H', J, q⟩ := hs; exact fin (v := V.non) (u := Value.none) J rfl q
  | brk => obtain ⟨_, _, _, q⟩ := hs; exact False.elim q
  | cont => obtain ⟨_, _, _, q⟩ := hs; exact False.elim q
/-- over data: the exception p is handled -/
def upH (K : PySem.W.Frag) (cl : Str → Addr) (s : DSp) (p : Addr × Obj) : Sp := fun vs H Q _ => ∃ (w : Wd) (ds : List D) (Q' : DK) (m : Str) (dd : Addr), w.H = H ∧ w.cl = cl ∧ w.ex = some (p.1, cl m, dd) ∧ L2N.Zn (.ref (cl m)) (some dd) p.2 ∧ (∃ vs, p.2.data = .fields vs) ∧ Ok K w ∧ RpL K w ds vs ∧ s ds w.M Q' DX0 ∧ Wv K w Q' Q
section
variable {P : Program} {w : World} {K : PySem.W.Frag} {mg : Str → Option Value} {base : Heap} {x qual : Str} {st : Stmt} {dvs : List V} {kws : List (Str × V)} {f : Addr} {fd : FuncData} {cl : Str → Addr}
theorem fnH {N ps : List Str} {k : Nat} {s : DSp} {t : DS} (F : FunD K x qual (defArgs st) (defBody st) (defScope st) dvs kws f fd) (S : FnScope N ps (defScope st))
    (hb : ∀ (cdv : Value) (A : Around) (outer : List Env) (sh : Shared) (H : Hp) (E : XK) (p : Addr × Obj) (c : Wd) (m : Str) (dd : Addr), c.cl = cl → c.ex = some (p.1, c.cl m, dd) → L2N.Zn (.ref (c.cl m)) (some dd) p.2 → (∃ vs, p.2.data = .fields vs) → RoomH k (A.deeper (envOfC qual (defScope st) sh.heap.objs.size f cdv)) →
      PDSs c (cxH CX0 P w K mg base N qual (defScope st) f cdv A outer sh H E p) (defBody st) t)
    (hs : ∀ ds M Q, s ds M Q DX0 → ds.length = ps.length ∧ t { nx := fun _ M' => Q .non M', rt := Q } (startD N ds) M) : FnHp P w K mg base CX0 (k + 1) f fd ps (upH K cl s) := by
  refine fn_ofHp F S (fun p vs H Q E h => ?_) (fun cdv A outer sh H vs Q E p hr h => ?_)
  · obtain ⟨w, ds, Q', m, dd, hH, hcl, hex, hz, hv, ok, r, h, k⟩ := h
    rw [r.length]; exact (hs ds _ Q' h).1
  · obtain ⟨w, ds, Q', m, dd, hH, hcl, hex, hz, hv, ok, r, h, k⟩ := h
    refine ⟨liftS K w t, hb cdv A outer sh H E p w m dd hcl (by rw [hcl]; exact hex) (by rw [hcl]; exact hz) hv hr, startD N ds, w, _, hH, ⟨Kp.refl w, RE.start r, ok, rfl, rfl⟩, (hs ds _ Q' h).2, ?_⟩
    exact { nx := fun ρ' w' σ' q b a => k .non w' .non q b rfl, rt := k, bk := fun _ _ _ q => q.elim, ct := fun _ _ _ q => q.elim }
structure FndH (P : Program) (w : World) (K : PySem.W.Frag) (mg : Str → Option Value) (base : Heap) (cl : Str → Addr) (k : Nat) (x : Str) (st : Stmt) (ps : List Str) (s : DSp) : Prop where
  ex : ∃ f fd, FunD K x x (defArgs st) (defBody st) (defScope st) [] [] f fd ∧ FnHp P w K mg base CX0 k f fd ps (upH K cl s) ∧ mg x = some (.ref f) ∧ Binds K fd ps []
end
section
variable {X : Cx} {c : Wd} {e : Expr} {es : List Expr} {tl : DA} {pos q : Pos} {x : Str} {st : Stmt} {ps : List Str} {s : DSp} {k : Nat}
theorem pd_callH {cl : Str → Addr} (hcl : c.cl = cl) {a : Addr} {oe : Obj} {m : Str} {dd : Addr} (hex : c.ex = some (a, c.cl m, dd)) (hp : (a, oe) ∈ X.pn) (hh : X.A.handled = some (.ref a)) (hz : L2N.Zn (.ref (c.cl m)) (some dd) oe) (hv : ∃ vs, oe.data = .fields vs)
    (G : FndH X.prog X.w X.K X.mg X.base cl k x st ps s) (hr : RoomH k X.A) (ha : PDA c X (e :: es) tl) (hg : Gl X x := by rfl) (hdb : (x == ("__debug__" : Str)) = false := by decide)
    (he : starEach (e :: es) X.env = (false, eval e X.env) :: starEach es X.env := by rfl) (hpl : (backTo pos (starEach es X.env)).any (·.1) = false := by rfl) : PD c X (.Call (.Name x q) (e :: es) [] pos) (dCall s DX0 tl) := by
  obtain ⟨f, fd, F, G, hm, hb⟩ := G.ex
  refine ⟨fun pins sh σ H Q I ⟨ρ, w, Q', hH, a0, h, k⟩ => ?_⟩
  refine wpAny_Call_Name_kw (ld_glob I hg hm ?_ hdb)
  have h1 : liftA X.K c tl σ H (fun vs H1 => upH X.K cl s (a, oe) vs H1 Q E0) := ⟨ρ, w, _, hH, a0, h, fun ds w1 vs q b r => ⟨w1, ds, Q', m, dd, rfl, by rw [b.kp.cl, a0.kp.cl, hcl], by rw [b.kp.ex, a0.kp.ex, hex, hcl], by rw [← hcl]; exact hz, hv, b.ok, r, q, k.back b⟩⟩
  refine PySem.W.callWith_K (h₀ := X.base) I.ok.mod.kin F.kp (thn (ha.run pos pins sh σ H _ I h1) fun us s1 ⟨vs, H1, I1, r, q⟩ => ⟨I1.kIn, ?_⟩) he hpl
  have hl : us.length = ps.length := by rw [← r.length]; exact G.len _ _ _ _ _ q
  have b := hb s1 us I1.kIn (by rw [List.append_nil]; exact hl)
  rw [List.append_nil] at b
  have P1 := I1.pin (a, oe) (List.mem_append_left _ hp)
  have hpin : PinOk X.stack H1 s1 (a, oe) := ⟨P1.1, P1.2.1, fun hm => (List.mem_cons.mp (I1.stkSub a hm)).elim P1.2.2.1 P1.2.2.2.1, P1.2.2.2.2⟩
  have hot : Hot1 X.A (a, oe) := by
    obtain ⟨vs, e⟩ := hv
    exact ⟨hh, vs, e, hz.2.2 vs e⟩
  refine wpAny_call (codeAny_mono (G.run X.A X.stack s1 H1 ⟨us, []⟩ us vs Q E0 (a, oe) hr hot hpin I1.env0 b r q) fun r s' hq => ?_)
  cases r with
  | error e => exact (show False from hq).elim
  | ok fl =>
    cases fl with
    | ret u => exact I1.after hq
    | next => exact False.elim hq
    | brk => exact False.elim hq
    | cont => exact False.elim hq
end
end DL
/-! The data layer, part k: a lambda without parameters, handed to a def that calls it. -/
namespace DL
open PySem PySem.Spec PyProof.Rows L2 LamX
/-- the context of the lambda's body -/
def lamN (X : Cx) (A : Around) (outer : List Env) (s : Shared) (H : Hp) (E : XK) (scope : Scope) (f c' : Addr) : Cx :=
  (lamCx X A outer s H E scope f c').wish fun e s' => wpAny (model X.prog X.w) (A.deeper (lamEnv X scope s.heap.objs.size f c')) (leaving (lamEnv X scope s.heap.objs.size f c') e) (fun _ s'' => L2N.CX X.prog X.w outer H s E e s'') (fun e' s'' => L2N.CX X.prog X.w outer H s E e' s'') s'
section
variable {X : Cx} {pins : List (Addr × Obj)} {σ : L2.St} {H : Hp} {s : Shared}
theorem pe_actN {CXg : CXT} {Eg : XK} {Ng : List Str} {qg : Str} {sg : Scope} {g f c' : Addr} {cdg pm ctv : Value} {params : Arguments} {body : Expr} {scope : Scope} {k i : Nat} {a : Str} {pn : List (Addr × Obj)} {xe : Value → Shared → Prop} {W : WX} {E : XK} {tb : TE} {p1 p2 : Pos}
    (I : Inv X pins σ H s) (L : LamS X.env.scope scope) (hf : s.heap.get? f = some (PySem.W.kla_obj "<lambda>" (X.env.qual ++ "<lambda>") params body scope (cloFrom X.env.cells scope.names []) pm c' ctv)) (hfn : H f = none) (hfr : f ∉ frs X.stack)
    (hbind : bindArgs (PySem.W.kla_fn "<lambda>" (X.env.qual ++ "<lambda>") params body scope (cloFrom X.env.cells scope.names []) pm (.ref c') ctv) ⟨[], []⟩ = pure [])
    (tk : L2N.Takes ((cxOf CXg X.prog X.w X.K X.mg X.base Ng qg sg g cdg X.A X.stack s H Eg).tr pn xe) W) (hW : ∀ cls d σ' H', E cls d H' → W cls d σ' H') (hr : Room (k + 1) (X.A.deeper (envOfC qg sg s.heap.objs.size g cdg)))
    (hbody : ∀ (A : Around) (outer : List Env) (s : Shared) (H : Hp), Room k (A.deeper (lamEnv X scope s.heap.objs.size f c')) → PE (lamN X A outer s H E scope f c') body tb)
    (hN : Ng[i]? = some a) (hv : Vis sg a) (hd : (a == ("__debug__" : Str)) = false) (hcd : (a == ("__classdict__" : Str)) = false) :
    PE ((cxOf CXg X.prog X.w X.K X.mg X.base Ng qg sg g cdg X.A X.stack s H Eg).tr pn xe) (.Call (.Name a p1) [] [] p2)
      (fun σZ HZ Q => σZ[i]? = some (some (.ref f)) ∧ HZ c' = some (CodeO c' (X.env.qual ++ "<lambda>")) ∧ tb σ HZ Q) := by
  refine ⟨fun pinsZ sZ σZ HZ Q IZ h => ?_⟩
  obtain ⟨hs, hc, ht⟩ := h
  refine wpAny_Call_Name_kw (thn ((pe_var (pos := p1) (i := i) hN hv hd hcd).run pinsZ sZ σZ HZ (fun v H1 => v = .ref f ∧ H1 = HZ) IZ ⟨.ref f, hs, rfl, rfl⟩) fun u s1 ⟨v, H1, I1, r1, q1⟩ => ?_)
  obtain ⟨ev, eH⟩ := q1
  subst ev
  rw [eH] at I1
  obtain rfl : u = Value.ref f := r1
  have of1 : s1.heap.get? f = some (PySem.W.kla_obj "<lambda>" (X.env.qual ++ "<lambda>") params body scope (cloFrom X.env.cells scope.names []) pm c' ctv) := I1.base.keep f _ hf hfn hfr (fun z => nomatch (show f ∈ ([] : List Addr) from z))
  refine PySem.W.callWith_F0 ⟨_, _, _, _, of1⟩ ?_
  obtain ⟨⟨oc, vs, t, hoc, hdc, hvc⟩, _, _⟩ := I1.hok c' _ hc
  have rc : codeAny (model X.prog X.w) (X.A.deeper (envOfC qg sg s.heap.objs.size g cdg)) (.call (.ref f) ⟨[], []⟩) (CR (L2N.CX X.prog X.w) (envOfC qg sg s.heap.objs.size g cdg :: X.stack) X.prog X.w HZ s1 Q E) s1 := by
    refine PySem.W.kla_callFunE hr.depth of1 rfl L.co L.gen rfl ⟨c', oc, vs, t, rfl, hoc, hdc, hvc⟩ ?_
    rw [hbind]
    refine wpAny_pure (wpAny_newFunctionEnv (fun y hy => (L.own y hy).2) (fun y hy => absurd hy (by simp)) (fun h₁ hns hsb => ⟨I1.nolimit.fresh _ hsb, ?_⟩) L.kind)
    show codeAny _ _ (.expr body (lamEnv X scope s1.heap.objs.size f c')) _ _
    have kp : ∀ b o, s1.heap.get? b = some o → h₁.get? b = some o := fun b o e => hsb.extBut b o (Nat.ne_of_lt (Heap.lt_size e)) (Heap.get?_push_of_some _ e)
    have J0 := lam_start2 (A := X.A.deeper (envOfC qg sg s.heap.objs.size g cdg)) (outer := envOfC qg sg s.heap.objs.size g cdg :: X.stack) (s1 := s1) (HZ := HZ) (E := E) (scope := scope) (f := f) (c' := c') (tk := s1.toks + ([] : List (Str × Value)).length) I L I1.env0 hr.hd I1.base hns kp
    have J : Inv (lamN X (X.A.deeper (envOfC qg sg s.heap.objs.size g cdg)) (envOfC qg sg s.heap.objs.size g cdg :: X.stack) s1 HZ E scope f c') [] σ HZ { s1 with heap := h₁, toks := s1.toks + ([] : List (Str × Value)).length } := J0.wish _
    refine PySem.W.kla_codeExpr (wpAny_mono ((hbody _ _ s1 HZ (hr.deeper _)).run [] _ _ HZ Q J ht) (fun v s' hq => ?_) fun e s' hq => hq)
    obtain ⟨w', H', J', rv, q⟩ := hq
    exact ⟨w', H', J'.os, J'.bare, J'.base, J'.hok, rv, q⟩
  refine wpAny_call (codeAny_mono rc fun r s' hq => ?_)
  cases r with
  | error e => exact L2N.passes_call tk hW pinsZ σZ HZ s1 e s' I1 hq
  | ok fl =>
    cases fl with
    | ret u => exact I1.after hq
    | next => exact False.elim hq
    | brk => exact False.elim hq
    | cont => exact False.elim hq
end
/-! ### over data -/
theorem tkL {X : Cx} {A : Around} {outer : List Env} {s : Shared} {H : Hp} {E : XK} {scope : Scope} {f c' : Addr} {c : Wd} {E' : DXK} (h : WvX X.K c E' E) : Tk c (lamN X A outer s H E scope f c') E' := by
  refine L2N.Takes.imp (L2N.takes_of (E := E) rfl rfl rfl rfl) fun cls d σ H q => ?_
  obtain ⟨n, fs, w', dd, vs, rfl, rfl, rfl, b, fr, hx, r, e⟩ := q
  exact h n fs w' dd vs e b fr hx r
/-- what the lambda does, as the def that got it sees it -/
abbrev DAct := DXK → Mu → DK → Prop
@[simp] def dAct (f : Addr) (tl : DAct) (E : DXK) : DE := fun ρ M Q => ρ[0]? = some (some (.ref f)) ∧ tl E M Q
@[simp] def dLam (TT : DAct → Mu → DK → Prop) (tL : DXK → DE) : DE := fun ρ M Q => TT (fun E M' Q' => tL E ρ M' Q') M Q
section
variable {X : Cx} {c : Wd} {cl : Str → Addr} {tb : List (Addr × Str)} {x a : Str} {st : Stmt} {g cc Pt : Addr} {fd : FuncData} {Ng : List Str} {k : Nat} {params : Arguments} {body : Expr} {scope : Scope} {tL : DXK → DE} {tG : Addr → DAct → DS} {TT : DAct → Mu → DK → Prop} {p lpos pos : Pos}
theorem pd_lam (hcc : Cc cl tb c) (htb : (Pt, X.env.qual ++ "<lambda>") ∈ tb) (hu : ∀ p ∈ tb, p.1 = Pt → p.2 = X.env.qual ++ "<lambda>") (F : FunD X.K x x (defArgs st) (defBody st) (defScope st) [] [] g fd) (hm : X.mg x = some (.ref g)) (hb : L2.Binds X.K fd [a] []) (Sg : FnScope Ng [a] (defScope st))
    (hG : ∀ (cdv : Value) (s : Shared) (H : Hp) (f : Addr) (cg : Wd) (tl : DAct), Cc cl tb cg → Room (k + 1) (X.A.deeper (envOfC x (defScope st) s.heap.objs.size g cdv)) →
      (∀ (cb : Wd) (E' : DXK) (pn : List (Addr × Obj)) (xe : Value → Shared → Prop) (p1 p2 : Pos), Cc cl tb cb → Kp cg cb → Tk cb ((cxOf CX0 X.prog X.w X.K X.mg X.base Ng x (defScope st) g cdv X.A X.stack s H E0).tr pn xe) E' →
        PD cb ((cxOf CX0 X.prog X.w X.K X.mg X.base Ng x (defScope st) g cdv X.A X.stack s H E0).tr pn xe) (.Call (.Name a p1) [] [] p2) (dAct f tl E')) →
      PDSs cg (cxOf CX0 X.prog X.w X.K X.mg X.base Ng x (defScope st) g cdv X.A X.stack s H E0) (defBody st) (tG f tl))
    (hT : ∀ f tl M Q, TT tl M Q → tG f tl { nx := fun _ M' => Q .non M', rt := Q } (startD Ng [.ref f]) M)
    (TB : TabB X.base X.mg cc Pt) (hcode : X.env.code = .ref cc) (hr : Room (k + 2) X.A) (L : LamS X.env.scope scope)
    (hbody : ∀ (A : Around) (outer : List Env) (s : Shared) (H : Hp) (E : XK) (f c' : Addr) (cL : Wd) (E' : DXK), Cc cl tb cL → Tk cL (lamN X A outer s H E scope f c') E' → Room k (A.deeper (lamEnv X scope s.heap.objs.size f c')) → PD cL (lamN X A outer s H E scope f c') body (tL E'))
    (hdef : defaultsOf params X.env = ([], []) := by rfl) (hbind : ∀ (q : Str) (cl : List (Str × Addr)) (pm cv ctv : Value), bindArgs (PySem.W.kla_fn "<lambda>" q params body scope cl pm cv ctv) ⟨[], []⟩ = pure [] := by intros; rfl)
    (hg : Gl X x := by rfl) (hNg : Ng[0]? = some a := by rfl) (hva : Vis (defScope st) a := by first | exact Or.inl rfl | exact Or.inr (Or.inl rfl) | exact Or.inr (Or.inr rfl)) (hdb : (x == ("__debug__" : Str)) = false := by decide) (hd : (a == ("__debug__" : Str)) = false := by decide) (hcd : (a == ("__classdict__" : Str)) = false := by decide) :
    PD c X (.Call (.Name x p) [.Lambda params body scope lpos] [] pos) (dLam TT tL) := by
  refine ⟨fun pins s σ H Q I ⟨ρ, w, Q', hH, at0, h, kw⟩ => ?_⟩
  subst hH
  obtain ⟨oc, od, dV, kV, doc, pm, an, cdv, ct, osl, rfl, lk, hcg, _, _⟩ := F.ex
  refine wpAny_Call_Name_kw (ld_glob I hg hm ?_ hdb)
  refine PySem.W.callWith_K (h₀ := X.base) I.ok.mod.kin F.kp ?_ (by rfl) (by rfl)
  show wpAny _ _ (spliced ((false, eval (.Lambda params body scope lpos) X.env) :: backTo pos (starEach [] X.env))) _ _ s
  have tbw : w.tb = tb := at0.kp.tb.trans hcc.tb
  refine Calls.spliced_cons (lam_make2 (T := w.tb) I TB hcode (by rw [tbw]; exact htb) (by rw [tbw]; exact hu) at0.ok.tabs hdef (L.has I.ok) fun f c' pm' ctv H1 s' I1 eN T1 hf hfn hfr hco => ?_)
  refine Calls.spliced_nil ⟨I1.kIn, ?_⟩
  -- the world behind
  have kp1 : Kp w (w.at H1) := Kp.of (fun b u hm e n => ⟨hm.at, eN b u e n⟩) (fun r b u e => ⟨e, fun q => by
    obtain ⟨xs, rfl⟩ := at0.ok.ll r b u e
    exact eN b _ q (fun ps z => by cases z)⟩) rfl rfl rfl
  have ok1 : Ok X.K (w.at H1) := ⟨fun b m e => by
      obtain ⟨u, q, n1, _⟩ := at0.ok.plain e
      exact (at0.ok.mo b m e).mono kp1 (by show H1 b = _; rw [eN b u q n1, q]),
    fun b u e => by
      obtain ⟨xs, rfl⟩ := at0.ok.hl b u e
      exact eN b _ (at0.ok.hid b _ e) (fun ps z => by cases z), at0.ok.ap, fun r b u e => by
      obtain ⟨xs, rfl⟩ := at0.ok.ll r b u e
      exact eN b _ (at0.ok.len r b _ e) (fun ps z => by cases z), at0.ok.lap, at0.ok.lfr, at0.ok.hl, at0.ok.ll, T1⟩
  have b1 : Bh X.K w (w.at H1) := ⟨kp1, ok1, rfl, rfl⟩
  have fc' : Fr (w.at H1) c' := by
    have hco' : (w.at H1).H c' = some (.ext _) := hco
    refine ⟨?_, ?_, fun r => ?_⟩
    · cases e : (w.at H1).M c' with
      | none => rfl
      | some m =>
        obtain ⟨u, q, _, n2⟩ := ok1.plain e
        rw [hco'] at q
        exact absurd (Option.some.inj q).symm (n2 _)
    · cases e : (w.at H1).hd c' with
      | none => rfl
      | some u =>
        obtain ⟨xs, rfl⟩ := ok1.hl c' u e
        have q := ok1.hid c' _ e
        rw [hco'] at q; cases q
    · cases e : (w.at H1).ln r c' with
      | none => rfl
      | some u =>
        obtain ⟨xs, rfl⟩ := ok1.ll r c' u e
        have q := ok1.len r c' _ e
        rw [hco'] at q; cases q
  have at1 := at0.next b1
  have w1cc : Cc cl tb (w.at H1) := hcc.sc (at0.kp.trans kp1).sc
  have rc : codeAny (model X.prog X.w) X.A (.call (.ref g) ⟨[.ref f], []⟩) (CR CX0 X.stack X.prog X.w H1 s' Q E0) s' := by
    refine run_ofS (k := k + 1) (N := Ng) (ps := [a]) (us := [.ref f]) (vs := [.ref f]) lk hcg Sg hr I1.env0 (hb s' [.ref f] I1.kIn rfl) (.cons rfl .nil) rfl fun hr' => ?_
    refine ⟨_, hG cdv s' H1 f (w.at H1) (fun E M' Q' => tL E ρ M' Q') w1cc hr' (fun cb E' pn xe p1 p2 bcc bkp btk => ?_), ?_⟩
    · -- the call of the lambda
      have act := pe_actN (E := XKof X.K cb E') (tb := fun σ H Q => ∃ cL : Wd, Cc cl tb cL ∧ Bh X.K cb cL ∧ lift X.K cL (tL E') σ H Q) (p1 := p1) (p2 := p2) (i := 0) I1 L hf hfn hfr (hbind _ _ _ _ _) btk (fun _ _ _ _ h => h) hr'
        (fun A outer s2 H2 hr2 => ⟨fun pins2 s3 σ3 H3 Q3 I3 ⟨cL, e1, e3, q⟩ => (hbody A outer s2 H2 _ f c' cL E' e1 (tkL fun n fs w' dd vs ee b' fr hx r => ⟨n, fs, w', dd, vs, by rw [e3.kp.cl], rfl, rfl, e3.trans b', fr, hx, r, ee⟩) hr2).run pins2 s3 σ3 H3 Q3 I3 q⟩) hNg hva hd hcd
      refine PE_imp act fun σZ HZ QZ ⟨ρZ, wZ, QZ', hHZ, aZ, ⟨h0, hq⟩, kZ⟩ => ?_
      subst hHZ
      have kpZ : Kp (w.at H1) wZ := bkp.trans aZ.kp
      obtain ⟨v0, e0, r0⟩ := aZ.re.2 0 _ h0
      obtain rfl : v0 = .ref f := r0
      refine ⟨e0, ?_, wZ, bcc.sc aZ.kp.sc, aZ.bh, ρ, wZ, QZ', rfl, ⟨Kp.refl _, at1.re.mono kpZ, aZ.ok, rfl, rfl⟩, hq, kZ⟩
      obtain ⟨_, u, q1, q2⟩ := kpZ.fr c' _ fc' hco (fun ps z => by cases (show HO.ext _ = HO.tbl ps from z))
      rw [q1, unl_ext (φ := _) (show unl u = .ext _ from q2)]
      rfl
    · exact ⟨startD Ng [.ref f], w.at H1, _, rfl, ⟨Kp.refl _, RE.start ⟨_, _, rfl, rfl, rfl⟩, ok1, rfl, rfl⟩, hT f _ _ Q' h, { nx := fun ρ' w' σ' q b a => (kw.back b1) .non w' .non q b rfl, rt := kw.back b1, bk := fun _ _ _ q => q.elim, ct := fun _ _ _ q => q.elim }⟩
  refine wpAny_call (codeAny_mono rc fun r s2 hq => ?_)
  cases r with
  | error e => exact (show False from hq).elim
  | ok fl =>
    cases fl with
    | ret u => exact I1.after hq
    | next => exact False.elim hq
    | brk => exact False.elim hq
    | cont => exact False.elim hq
end
end DL
/-! The data layer, part g: built-in functions, methods of texts, ranges, enumerate, zip. -/
namespace DL
open PySem L2
section
variable {X : Cx} {c : Wd} {e o : Expr} {es : List Expr} {te ta tb to' : DE} {tl : DA} {pos p apos : Pos}
@[simp] def lenD : DC := fun ds M Q => match ds with
  | [.lst _ xs] => Q (.int xs.length) M
  | [.tup xs] => Q (.int xs.length) M
  | [.str z] => z.length ≤ 100000 ∧ Q (.int z.length) M
  | [.ref a] => (match M a with | some (.lst xs) => Q (.int xs.length) M | _ => False)
  | _ => False
theorem one_of {K : PySem.W.Frag} {w : Wd} {d : D} {vs : List V} (r : RpL K w [d] vs) : ∃ v, vs = [v] ∧ Rp K w d v := by
  obtain ⟨x, q, rfl, r1, r2⟩ := r
  obtain rfl : q = [] := r2
  exact ⟨x, rfl, r1⟩
theorem two_of {K : PySem.W.Frag} {w : Wd} {d e : D} {vs : List V} (r : RpL K w [d, e] vs) : ∃ v u, vs = [v, u] ∧ Rp K w d v ∧ Rp K w e u := by
  obtain ⟨x, q, rfl, r1, r2⟩ := r
  obtain ⟨u, rfl, r3⟩ := one_of r2
  exact ⟨x, u, rfl, r1, r3⟩
theorem len_D : CallD X (.builtin "len") lenD := by
  intro pins s σ H vs us Q I rs ⟨w, ds, Q', hH, ok, r, h, k⟩
  subst hH
  match ds, r, h with
  | [d], r, h =>
    obtain ⟨v, rfl, r1⟩ := one_of r
    cases d with
    | lst t xs => obtain ⟨a, ys, rfl, l, s1⟩ := r1; exact call_len pins s σ _ _ us Q I rs ⟨_, ys.length, rfl, .inl ⟨ys, l.sq, rfl⟩, by rw [s1.length]; exact k.here ok h rfl⟩
    | tup xs => obtain ⟨a, ys, rfl, l, s1⟩ := r1; exact call_len pins s σ _ _ us Q I rs ⟨_, ys.length, rfl, .inr ⟨ys, l.sq, rfl⟩, by rw [s1.length]; exact k.here ok h rfl⟩
    | str z => obtain rfl : v = .str z := r1; exact call_len pins s σ _ _ us Q I rs ⟨_, z.length, rfl, ⟨sz h.1, rfl⟩, k.here ok h.2 rfl⟩
    | ref a =>
      obtain rfl : v = .ref a := r1
      cases em : w.M a with
      | none => simp only [lenD, em] at h
      | some m =>
        cases m with
        | lst xs =>
          simp only [lenD, em] at h
          obtain ⟨ys, hx, s1⟩ := (show ∃ ys, w.H a = some (.lst ys) ∧ RpL X.K w xs ys from ok.mo a _ em)
          exact call_len pins s σ _ _ us Q I rs ⟨_, ys.length, rfl, .inl ⟨ys, SqL.of hx, rfl⟩, by rw [s1.length]; exact k.here ok h rfl⟩
        | _ => simp only [lenD, em] at h
    | _ => exact False.elim h
  | [], r, h => exact False.elim h
  | d :: _ :: _, r, h => cases d <;> exact False.elim h
@[simp] def intD : DC := fun ds M Q => match ds with
  | [.int i] => Q (.int i) M
  | [.bl b] => Q (.int (if b then 1 else 0)) M
  | [.str a] => a.length ≤ 640 ∧ ∃ n, PySem.intText? a = some n ∧ Q (.int n) M
  | _ => False
theorem int_D : CallD X (.type "int") intD := by
  intro pins s σ H vs us Q I rs ⟨w, ds, Q', hH, ok, r, h, k⟩
  subst hH
  match ds, r, h with
  | [d], r, h =>
    obtain ⟨v, rfl, r1⟩ := one_of r
    cases d with
    | int i => obtain rfl : v = .int i := r1; exact call_int1 pins s σ _ _ us Q I rs (.inl ⟨i, rfl, k.here ok h rfl⟩)
    | bl b => obtain rfl : v = .bl b := r1; exact call_int1 pins s σ _ _ us Q I rs (.inr ⟨b, rfl, k.here ok h rfl⟩)
    | str a => obtain rfl : v = .str a := r1; obtain ⟨hl, n, hn, h⟩ := h; exact call_int_str pins s σ _ _ us Q I rs ⟨a, n, rfl, hn, hl, k.here ok h rfl⟩
    | _ => exact False.elim h
  | [], r, h => exact False.elim h
  | d :: _ :: _, r, h => cases d <;> exact False.elim h
@[simp] def strD : DC := fun ds M Q => match ds with
  | [.int i] => i.natAbs.log2 < 1920 ∧ Q (.str (toString i)) M
  | _ => False
theorem str_D : CallD X (.type "str") strD := by
  intro pins s σ H vs us Q I rs ⟨w, ds, Q', hH, ok, r, h, k⟩
  subst hH
  match ds, r, h with
  | [d], r, h =>
    obtain ⟨v, rfl, r1⟩ := one_of r
    cases d with
    | int i => obtain rfl : v = .int i := r1; exact call_str_int pins s σ _ _ us Q I rs ⟨i, rfl, h.1, k.here ok h.2 rfl⟩
    | _ => exact False.elim h
  | [], r, h => exact False.elim h
  | d :: _ :: _, r, h => cases d <;> exact False.elim h
@[simp] def tupD : DC := fun ds M Q => match ds with
  | [.lst _ xs] => Q (.tup xs) M
  | [.tup xs] => Q (.tup xs) M
  | _ => False
theorem tup_D : CallD X (.type "tuple") tupD := by
  intro pins s σ H vs us Q I rs ⟨w, ds, Q', hH, ok, r, h, k⟩
  subst hH
  match ds, r, h with
  | [d], r, h =>
    obtain ⟨v, rfl, r1⟩ := one_of r
    cases d with
    | lst t xs => obtain ⟨a, ys, rfl, l, s1⟩ := r1; exact call_tuple_of pins s σ _ _ us Q I rs ⟨a, ys, rfl, .inl ⟨l.sq, fun q hq => k.new ok hq h (rp_tup ok hq s1)⟩⟩
    | tup xs => obtain ⟨a, ys, rfl, l, s1⟩ := r1; exact call_tuple_of pins s σ _ _ us Q I rs ⟨a, ys, rfl, .inr ⟨l.sq, k.here ok h ⟨a, ys, rfl, l, s1⟩⟩⟩
    | _ => exact False.elim h
  | [], r, h => exact False.elim h
  | d :: _ :: _, r, h => cases d <;> exact False.elim h
@[simp] def lstD : DC := fun ds M Q => match ds with
  | [.lst _ xs] => Q (.lst 0 xs) M
  | [.tup xs] => Q (.lst 0 xs) M
  | [.ref a] => (match M a with | some (.lst xs) => Q (.lst 0 xs) M | _ => False)
  | _ => False
theorem lst_D : CallD X (.type "list") lstD := by
  intro pins s σ H vs us Q I rs ⟨w, ds, Q', hH, ok, r, h, k⟩
  subst hH
  match ds, r, h with
  | [d], r, h =>
    obtain ⟨v, rfl, r1⟩ := one_of r
    cases d with
    | lst t xs => obtain ⟨a, ys, rfl, l, s1⟩ := r1; exact call_list_of pins s σ _ _ us Q I rs ⟨a, ys, rfl, .inl l.sq, fun q hq => k.new ok hq h (rp_lst ok hq s1)⟩
    | tup xs => obtain ⟨a, ys, rfl, l, s1⟩ := r1; exact call_list_of pins s σ _ _ us Q I rs ⟨a, ys, rfl, .inr l.sq, fun q hq => k.new ok hq h (rp_lst ok hq s1)⟩
    | ref a =>
      obtain rfl : v = .ref a := r1
      cases em : w.M a with
      | none => simp only [lstD, em] at h
      | some m =>
        cases m with
        | lst xs =>
          simp only [lstD, em] at h
          obtain ⟨ys, hx, s1⟩ := (show ∃ ys, w.H a = some (.lst ys) ∧ RpL X.K w xs ys from ok.mo a _ em)
          exact call_list_of pins s σ _ _ us Q I rs ⟨a, ys, rfl, .inl (SqL.of hx), fun q hq => k.new ok hq h (rp_lst ok hq s1)⟩
        | _ => simp only [lstD, em] at h
    | _ => exact False.elim h
  | [], r, h => exact False.elim h
  | d :: _ :: _, r, h => cases d <;> exact False.elim h
theorem bls_of {K : PySem.W.Frag} {w : Wd} : ∀ {bs : List Bool} {vs : List V}, RpL K w (bs.map D.bl) vs → vs = bs.map V.bl
  | [], vs, r => r
  | b :: bs, vs, r => by
    obtain ⟨x, q, rfl, r1, r2⟩ := r
    rw [bls_of r2, show x = V.bl b from r1]; rfl
@[simp] def allD : DC := fun ds M Q => match ds with
  | [.lst _ xs] => ∃ bs : List Bool, xs = bs.map D.bl ∧ Q (.bl (bs.all id)) M
  | _ => False
@[simp] def anyD : DC := fun ds M Q => match ds with
  | [.lst _ xs] => ∃ bs : List Bool, xs = bs.map D.bl ∧ Q (.bl (bs.any id)) M
  | _ => False
theorem all_D (hc : X.calm = true) : CallD X (.builtin "all") allD := by
  intro pins s σ H vs us Q I rs ⟨w, ds, Q', hH, ok, r, h, k⟩
  subst hH
  match ds, r, h with
  | [d], r, h =>
    obtain ⟨v, rfl, r1⟩ := one_of r
    cases d with
    | lst t xs => obtain ⟨a, ys, rfl, l, s1⟩ := r1; obtain ⟨bs, rfl, h⟩ := h; exact cr_all hc pins s σ _ _ us Q I rs ⟨a, bs, rfl, by rw [← bls_of s1]; exact l.sq, k.here ok h rfl⟩
    | _ => exact False.elim h
  | [], r, h => exact False.elim h
  | d :: _ :: _, r, h => cases d <;> exact False.elim h
theorem any_D (hc : X.calm = true) : CallD X (.builtin "any") anyD := by
  intro pins s σ H vs us Q I rs ⟨w, ds, Q', hH, ok, r, h, k⟩
  subst hH
  match ds, r, h with
  | [d], r, h =>
    obtain ⟨v, rfl, r1⟩ := one_of r
    cases d with
    | lst t xs => obtain ⟨a, ys, rfl, l, s1⟩ := r1; obtain ⟨bs, rfl, h⟩ := h; exact cr_any hc pins s σ _ _ us Q I rs ⟨a, bs, rfl, by rw [← bls_of s1]; exact l.sq, k.here ok h rfl⟩
    | _ => exact False.elim h
  | [], r, h => exact False.elim h
  | d :: _ :: _, r, h => cases d <;> exact False.elim h

/-! ### isinstance, built-in classes -/
def tyN : D → Option String
  | .non => some "NoneType"
  | .bl _ => some "bool"
  | .int _ => some "int"
  | .str _ => some "str"
  | .lst _ _ => some "list"
  | .tup _ => some "tuple"
  | .dct _ => some "dict"
  | _ => none
def tyNames : List String := ["NoneType", "bool", "int", "str", "list", "tuple", "dict"]
def isA (a b : String) : Bool := a == b || (a == "bool" && b == "int")
theorem kit_all : ∀ a ∈ tyNames, ∀ b ∈ tyNames, kitB a b = some (isA a b) := by decide +kernel
def inst (d : D) (n : String) : Bool := match tyN d with | some a => isA a n | none => false
theorem tyN_mem {d : D} {a : String} (h : tyN d = some a) : a ∈ tyNames := by
  cases d <;> simp only [tyN] at h <;> first | (cases h; done) | (obtain rfl := Option.some.inj h; decide)
theorem kit_D {pins : List (Addr × Obj)} {s : Shared} {σ : St} {w : Wd} {d : D} {v : V} {u : Value} {a : String} (I : Inv X pins σ w.H s) (h : tyN d = some a) (r : Rp X.K w d v) (rx : RelV v u) :
    ∃ P : Heap → Prop, PySem.W.KitX X.K u (.type a) P ∧ P s.heap ∧ u ≠ .builtin "__main__.__loader__#opaque" := by
  cases d with
  | non => obtain rfl : v = .non := r; cases h; exact kit_of I rx (.base .non)
  | bl b => obtain rfl : v = .bl b := r; cases h; exact kit_of I rx (.base (.bl b))
  | int b => obtain rfl : v = .int b := r; cases h; exact kit_of I rx (.base (.int b))
  | str b => obtain rfl : v = .str b := r; cases h; exact kit_of I rx (.base (.str b))
  | lst t xs => obtain ⟨p, ys, rfl, l, _⟩ := r; cases h; exact kit_of I rx (.base (.lst l.1))
  | tup xs =>
    obtain ⟨p, ys, rfl, l, _⟩ := r
    cases h
    rcases l with l | l
    · exact kit_of I rx (.base (.tup l.2))
    · rcases l (fun _ => none) with z | ⟨o, its, n, hk, hc, _⟩
      · rcases z with z | ⟨_, z⟩ <;> cases z
      · exact kit_of I rx (.kTuple hk hc)
  | dct kvs =>
    obtain ⟨p, rfl, hm, hl⟩ := r
    cases h
    rcases hl with ⟨ks, ⟨u', e, q⟩, _⟩ | ⟨ks, ⟨u', e, q⟩, _⟩
    · unfold unl at q
      split at q
      · cases q; exact kit_of I rx (.fDict e)
      · cases q
      · subst q; exact kit_of I rx (.base (.dK e))
    · unfold unl at q
      split at q
      · cases q
      · cases q
        rename_i ob
        cases (show u = Value.ref p from rx)
        obtain ⟨_, _, _, xs, _, o, es, ep, h1, h2, _⟩ := (show ObjOk X.prog X.w w.H s.heap p (.frz ob (.dT ks)) from I.hok p _ e)
        exact ⟨_, PySem.W.kitx_dict, ⟨o, h1, h2.1⟩, fun z => nomatch z⟩
      · subst q; exact kit_of I rx (.base (.dT e))
  | _ => cases h
def tyV1 : D → Option String
  | .ty n => some n
  | _ => none
def tysOf : List D → Option (List String)
  | [] => some []
  | .ty n :: r => (tysOf r).map (n :: ·)
  | _ => none
@[simp] def isiD : DC := fun ds M Q => match ds with
  | [x, .ty n] => ((tyN x).isSome = true ∧ n ∈ tyNames) ∧ Q (.bl (inst x n)) M
  | [x, .tup cs] => (match tysOf cs with | some ns => ((tyN x).isSome = true ∧ (∀ n ∈ ns, n ∈ tyNames)) ∧ Q (.bl (ns.any (inst x))) M | none => False)
  | _ => False
theorem tys_vals {K : PySem.W.Frag} {w : Wd} : ∀ {cs : List D} {ns : List String} {vs : List V} {us : List Value}, tysOf cs = some ns → RpL K w cs vs → Vals vs us → us = ns.map Value.type
  | [], ns, vs, us, h, r, q => by
    obtain rfl : vs = [] := r
    cases h; cases q; rfl
  | .ty n :: cs, ns, vs, us, h, r, q => by
    obtain ⟨x, r', rfl, r1, r2⟩ := r
    obtain rfl : x = .ty n := r1
    cases e : tysOf cs with
    | none => simp only [tysOf, e] at h; cases h
    | some ms =>
      simp only [tysOf, e, Option.map_some] at h
      cases h
      cases q with
      | cons q1 q2 =>
        rw [tys_vals e r2 q2]
        cases (show _ = Value.type n from q1)
        rfl
  | .non :: _, _, _, _, h, _, _ => by cases h
  | .bl _ :: _, _, _, _, h, _, _ => by cases h
  | .int _ :: _, _, _, _, h, _, _ => by cases h
  | .str _ :: _, _, _, _, h, _, _ => by cases h
  | .lst _ _ :: _, _, _, _, h, _, _ => by cases h
  | .exc _ _ :: _, _, _, _, h, _, _ => by cases h
  | .cls _ :: _, _, _, _, h, _, _ => by cases h
  | .tup _ :: _, _, _, _, h, _, _ => by cases h
  | .dct _ :: _, _, _, _, h, _, _ => by cases h
  | .obj _ _ :: _, _, _, _, h, _, _ => by cases h
  | .ref _ :: _, _, _, _, h, _, _ => by cases h
  | .scr _ :: _, _, _, _, h, _, _ => by cases h
theorem kit_any {K : PySem.W.Frag} {a : String} (ha : a ∈ tyNames) : ∀ {ns : List String}, (∀ n ∈ ns, n ∈ tyNames) → PySem.W.kitAny K (.type a) (ns.map Value.type) = some (ns.any fun n => isA a n)
  | [], _ => rfl
  | n :: ns, h => by
    refine kitAny_cons (b := isA a n) (kit_ty (kit_all a ha n (h n List.mem_cons_self))) (fun e => ?_) (fun e => ?_)
    · rw [List.any_cons, e, Bool.false_or]; exact kit_any ha fun m hm => h m (List.mem_cons_of_mem _ hm)
    · rw [List.any_cons, e, Bool.true_or]
theorem isi_D : CallD X (.builtin "isinstance") isiD := by
  intro pins s σ H vs us Q I rs ⟨w, ds, Q', hH, ok, r, h, k⟩
  subst hH
  match ds, r, h with
  | [d, t], r, h =>
    obtain ⟨v, v2, rfl, r1, r2⟩ := two_of r
    obtain ⟨u1, u2, rfl, q1, q2⟩ := vals2 rs
    cases t with
    | ty n =>
      obtain rfl : v2 = .ty n := r2
      cases (show u2 = Value.type n from q2)
      obtain ⟨⟨h1, h2⟩, h⟩ := h
      obtain ⟨a, ha⟩ := Option.isSome_iff_exists.mp h1
      obtain ⟨P, Z, pz, hx⟩ := kit_D I ha r1 q1
      refine PySem.W.kia_one (b := isA a n) Z I.kIn pz (kit_ty (kit_all a (tyN_mem ha) n h2)) hx fun tk => ⟨.bl _, _, I.tok tk, rfl, ?_⟩
      have : inst d n = isA a n := by unfold inst; rw [ha]
      rw [← this]; exact k.here ok h rfl
    | tup cs =>
      obtain ⟨tp, xs, rfl, l, s1⟩ := r2
      cases (show u2 = Value.ref tp from q2)
      cases e : tysOf cs with
      | none => simp only [isiD, e] at h
      | some ns =>
        simp only [isiD, e] at h
        obtain ⟨⟨h1, h2⟩, h⟩ := h
        obtain ⟨a, ha⟩ := Option.isSome_iff_exists.mp h1
        obtain ⟨P, Z, pz, hx⟩ := kit_D I ha r1 q1
        obtain ⟨its, rv, ⟨oo, g1, g2, n, g3⟩, hz⟩ := I.tuple l.sq
        have e3 := tys_vals e s1 rv
        subst e3
        obtain ⟨oc, od, dt, sl⟩ := oo
        simp only at g2 g3
        subst g2 g3
        refine PySem.W.kia_tup (b := ns.any fun n => isA a n) Z I.kIn pz g1 (kit_any (tyN_mem ha) h2) hx fun tk => ⟨.bl _, _, I.tok tk, rfl, ?_⟩
        have : (fun n => isA a n) = inst d := by funext n; unfold inst; rw [ha]
        rw [this]; exact k.here ok h rfl
    | _ => exact False.elim h
  | [], r, h => exact False.elim h
  | [_], r, h => exact False.elim h
  | _ :: t :: _ :: _, r, h => cases t <;> exact False.elim h
theorem pd_ty {x : Str} {n : String} (hm : X.mg x = none) (hv : bootBuiltins x = some (.type n)) (hg : Gl X x := by rfl) (hn : x ≠ "__name__" := by decide) (hd : (x == ("__debug__" : Str)) = false := by decide) : PD c X (.Name x pos) (dC (.ty n)) :=
  pd_of (pe_bltn hg hm hv (v := .ty n) rfl hn hd) fun _ => rfl

/-! ### methods of texts with one argument -/
abbrev DM1 := Str → D → Mu → DK → Prop
@[simp] def dM1 (g : DM1) (ta tb : DE) : DE := fun ρ M Q => ta ρ M fun d M1 => match d with | .str a => tb ρ M1 fun y M2 => g a y M2 Q | _ => False
def liftM1 (K : PySem.W.Frag) (g : DM1) : V → List V → Hp → VK → Prop := fun x xs H Q => ∃ w a y v Q', w.H = H ∧ x = .str a ∧ xs = [v] ∧ Ok K w ∧ Rp K w y v ∧ g a y w.M Q' ∧ Wv K w Q' Q
theorem pd_m1 {id : String} {name : Str} {g : DM1} (slot : Slot "str" name id) (ty : typeOf (.builtin id) = pure (.type "method_descriptor")) (rule : MtR X id (liftM1 X.K g)) (ho : PD c X o ta) (he : PD c X e tb)
    (hs : starEach [e] X.env = [(false, eval e X.env)] := by rfl) (hbase : attributeBase o name X.env (eval o X.env) = eval o X.env := by rfl) (hline : (apos.endLine == pos.line) = true := by rfl) :
    PD c X (.Call (.Attribute o name apos) [e] [] pos) (dM1 g ta tb) := PE_imp (pe_m1 slot ty rule ho he hs hbase hline) fun σ H Q ⟨ρ, w, Q', hH, a, h, k⟩ =>
  ⟨ρ, w, _, hH, a, h, fun d w1 v q b1 r => by
    cases d with
    | str z => obtain rfl : v = .str z := r; exact ⟨⟨z, rfl⟩, ρ, w1, _, rfl, a.next b1, q, fun y w2 u q2 b2 r2 => ⟨w2, z, y, u, Q', rfl, rfl, rfl, b2.ok, r2, q2, k.back (b1.trans b2)⟩⟩
    | _ => exact q.elim⟩
@[simp] def joinD : DM1 := fun a y M Q => match y with
  | .lst _ xs => ∃ ys : List Str, xs = ys.map D.str ∧ (ys.map (·.length)).sum + ys.length * a.length ≤ 100000 ∧ Q (.str (Txt.join a ys)) M
  | .tup xs => ∃ ys : List Str, xs = ys.map D.str ∧ (ys.map (·.length)).sum + ys.length * a.length ≤ 100000 ∧ Q (.str (Txt.join a ys)) M
  | _ => False
theorem strs_of {K : PySem.W.Frag} {w : Wd} : ∀ {bs : List Str} {vs : List V}, RpL K w (bs.map D.str) vs → vs = bs.map V.str
  | [], vs, r => r
  | b :: bs, vs, r => by
    obtain ⟨x, q, rfl, r1, r2⟩ := r
    rw [strs_of r2, show x = V.str b from r1]; rfl
theorem join_D : MtR X "str.join" (liftM1 X.K joinD) := by
  intro pins s σ H x xs v us Q I rx rs ⟨w, a, y, vy, Q', hH, e1, e2, ok, r, h, k⟩
  subst hH e1 e2
  cases y with
  | lst t ds => obtain ⟨p, ys, rfl, l, s1⟩ := r; obtain ⟨zs, rfl, hz, h⟩ := h; exact mt_join pins s σ _ _ _ v us Q I rx rs ⟨a, p, zs, rfl, rfl, .inl (by rw [← strs_of s1]; exact l.sq), by omega, k.here ok h rfl⟩
  | tup ds => obtain ⟨p, ys, rfl, l, s1⟩ := r; obtain ⟨zs, rfl, hz, h⟩ := h; exact mt_join pins s σ _ _ _ v us Q I rx rs ⟨a, p, zs, rfl, rfl, .inr (by rw [← strs_of s1]; exact l.sq), by omega, k.here ok h rfl⟩
  | _ => exact False.elim h
theorem pd_join (ho : PD c X o ta) (he : PD c X e tb) (hs : starEach [e] X.env = [(false, eval e X.env)] := by rfl) (hbase : attributeBase o "join" X.env (eval o X.env) = eval o X.env := by rfl) (hline : (apos.endLine == pos.line) = true := by rfl) :
    PD c X (.Call (.Attribute o "join" apos) [e] [] pos) (dM1 joinD ta tb) := pd_m1 F.slot_str_join F.type_str_join join_D ho he hs hbase hline
@[simp] def sindexD : DM1 := fun a y M Q => match y with
  | .str b => (match Builtin.Str.occurrences a b 0 a.length 1 with | i :: _ => Q (.int (i : Nat)) M | [] => False)
  | _ => False
theorem sindex_D : MtR X "str.index" (liftM1 X.K sindexD) := by
  intro pins s σ H x xs v us Q I rx rs ⟨w, a, y, vy, Q', hH, e1, e2, ok, r, h, k⟩
  subst hH e1 e2
  cases y with
  | str b =>
    obtain rfl : vy = .str b := r
    cases e : Builtin.Str.occurrences a b 0 a.length 1 with
    | nil => simp only [sindexD, e] at h
    | cons i rest => simp only [sindexD, e] at h; exact mt_sindex pins s σ _ _ _ v us Q I rx rs ⟨a, b, i, rest, rfl, rfl, e, k.here ok h rfl⟩
  | _ => exact False.elim h
theorem pd_sindex (ho : PD c X o ta) (he : PD c X e tb) (hs : starEach [e] X.env = [(false, eval e X.env)] := by rfl) (hbase : attributeBase o "index" X.env (eval o X.env) = eval o X.env := by rfl) (hline : (apos.endLine == pos.line) = true := by rfl) :
    PD c X (.Call (.Attribute o "index" apos) [e] [] pos) (dM1 sindexD ta tb) := pd_m1 F.slot_str_index F.type_str_index sindex_D ho he hs hbase hline

/-! ### ranges, enumerate, zip -/
def rngD (lo : Int) (n : Nat) : List D := (List.range n).map fun (i : Nat) => .int (lo + i)
@[simp] def dRng1 (ta : DA) : DI := fun ρ M Q => ta ρ M fun ds M1 => match ds with | [.int j] => (-100000 ≤ j ∧ j ≤ 100000) ∧ Q (rngD 0 j.toNat) M1 | _ => False
theorem pdi_range1 {tg : Expr} (hm : X.mg "range" = none) (ha : PDA c X [e] tl) (hg : Gl X "range" := by rfl) (hs : starEach [e] X.env = [(false, eval e X.env)] := by rfl) : PDI c X tg (.Call (.Name "range" p) [e] [] pos) (dRng1 tl) :=
  PI_imp (pi_range1 hg hm ha hs) fun σ H R ⟨ρ, w, Q', hH, a, h, k⟩ => ⟨ρ, w, _, hH, a, h, fun ds w1 vs q b r => by
    match ds, r, q with
    | [d], r, q =>
      obtain ⟨v, rfl, r1⟩ := one_of r
      cases d with
      | int j => obtain rfl : v = .int j := r1; exact ⟨j, rfl, by omega, by omega, k _ w1 _ q.2 b isIt_r⟩
      | _ => exact q.elim
    | [], r, q => exact False.elim q
    | d :: _ :: _, r, q => cases d <;> exact False.elim q⟩
def zipD (xs ys : List D) : List D := (xs.zip ys).map fun p => .tup [p.1, p.2]
theorem zip_at {xs ys : List D} {i : Nat} {d : D} (h : (zipD xs ys)[i]? = some d) : ∃ x y, xs[i]? = some x ∧ ys[i]? = some y ∧ d = .tup [x, y] := by
  unfold zipD at h
  rw [List.getElem?_map] at h
  cases e : (xs.zip ys)[i]? with
  | none => rw [e] at h; cases h
  | some q =>
    rw [e] at h
    obtain ⟨h1, h2⟩ := List.getElem?_zip_eq_some.mp e
    exact ⟨q.1, q.2, h1, h2, (Option.some.inj h).symm⟩
theorem isIt_zl {K : PySem.W.Frag} {w : Wd} {ds es : List D} {t t2 : Nat} {a b : Addr} {xs ys : List V} (h : LsAt w t a xs) (h2 : LsAt w t2 b ys) (r : RpL K w ds xs) (r2 : RpL K w es ys) : IsIt K w (zipD ds es) (Itz K a b) := fun w' k ok => by
  have ha := k.lst h
  have hb := k.lst h2
  have r' := r.mono k
  have r2' := r2.mono k
  have hl := r'.length
  have hl2 := r2'.length
  refine ⟨fun i d e => ?_, ⟨xs, ys, ha.sq, hb.sq, ?_⟩⟩
  · obtain ⟨x, y, e1, e2, rfl⟩ := zip_at e
    obtain ⟨v, f1, q1⟩ := r'.at e1
    obtain ⟨u, f2, q2⟩ := r2'.at e2
    refine ⟨⟨xs, ys, v, u, ha.sq, hb.sq, f1, f2⟩, fun z H'' yl => ?_⟩
    obtain ⟨T, v', u', rfl, hT, rfl, y1, y2⟩ := yl
    have z1 := y1 xs ha.sq
    have z2 := y2 ys hb.sq
    rw [f1] at z1; rw [f2] at z2
    cases z1; cases z2
    exact ⟨Bh.new ok hT, rp_tup ok hT ⟨v, [u], rfl, q1, u, [], rfl, q2, rfl⟩⟩
  · unfold zipD
    rw [List.length_map, List.length_zip]; omega
theorem isIt_zt {K : PySem.W.Frag} {w : Wd} {ds es : List D} {a b : Addr} {xs ys : List V} (h : TuAt K w a xs) (h2 : TuAt K w b ys) (r : RpL K w ds xs) (r2 : RpL K w es ys) : IsIt K w (zipD ds es) (RZ.ItzT K a b) := fun w' k ok => by
  have ha := k.tup h
  have hb := k.tup h2
  have r' := r.mono k
  have r2' := r2.mono k
  have hl := r'.length
  have hl2 := r2'.length
  refine ⟨fun i d e => ?_, ⟨xs, ys, ha.sq, hb.sq, ?_⟩⟩
  · obtain ⟨x, y, e1, e2, rfl⟩ := zip_at e
    obtain ⟨v, f1, q1⟩ := r'.at e1
    obtain ⟨u, f2, q2⟩ := r2'.at e2
    refine ⟨⟨xs, ys, v, u, ha.sq, hb.sq, f1, f2⟩, fun z H'' yl => ?_⟩
    obtain ⟨T, v', u', rfl, hT, rfl, y1, y2⟩ := yl
    have z1 := y1 xs ha.sq
    have z2 := y2 ys hb.sq
    rw [f1] at z1; rw [f2] at z2
    cases z1; cases z2
    exact ⟨Bh.new ok hT, rp_tup ok hT ⟨v, [u], rfl, q1, u, [], rfl, q2, rfl⟩⟩
  · unfold zipD
    rw [List.length_map, List.length_zip]; omega
@[simp] def dZip (ta : DA) : DI := fun ρ M Q => ta ρ M fun ds M1 => match ds with
  | [.lst _ xs, .lst _ ys] => Q (zipD xs ys) M1
  | [.tup xs, .tup ys] => Q (zipD xs ys) M1
  | _ => False
theorem pdi_zip {e2 : Expr} {elts : List Expr} {kk : Nat} {tpos : Pos} (hm : X.mg "zip" = none) (ha : PDA c X [e, e2] tl) (hg : Gl X "zip" := by rfl) (hs : starEach [e, e2] X.env = (false, eval e X.env) :: starEach [e2] X.env := by rfl) (hpl : (backTo pos (starEach [e2] X.env)).any (·.1) = false := by rfl) :
    PDI c X (.Tuple elts kk tpos) (.Call (.Name "zip" p) [e, e2] [] pos) (dZip tl) :=
  PI_imp (RZ.pi_zipA hg hm ha hs hpl) fun σ H R ⟨ρ, w, Q', hH, a, h, k⟩ => ⟨ρ, w, _, hH, a, h, fun ds w1 vs q b r => by
    match ds, r, q with
    | [d, d2], r, q =>
      obtain ⟨v, u, rfl, r1, r2⟩ := two_of r
      cases d with
      | lst t xs => cases d2 with
        | lst ys =>
          obtain ⟨pa, as, rfl, l1, s1⟩ := r1
          obtain ⟨pb, bs, rfl, l2, s2⟩ := r2
          exact ⟨pa, pb, as, bs, rfl, .inl ⟨l1.sq, l2.sq, k _ w1 _ q b (isIt_zl l1 l2 s1 s2)⟩⟩
        | _ => exact q.elim
      | tup xs => cases d2 with
        | tup ys =>
          obtain ⟨pa, as, rfl, l1, s1⟩ := r1
          obtain ⟨pb, bs, rfl, l2, s2⟩ := r2
          exact ⟨pa, pb, as, bs, rfl, .inr ⟨l1.sq, l2.sq, k _ w1 _ q b (isIt_zt l1 l2 s1 s2)⟩⟩
        | _ => exact q.elim
      | _ => exact q.elim
    | [], r, q => exact False.elim q
    | [d], r, q => cases d <;> exact False.elim q
    | d :: d2 :: _ :: _, r, q => cases d <;> cases d2 <;> exact False.elim q⟩
def enumD (i : Nat) : List D → List D
  | [] => []
  | x :: xs => .tup [.int i, x] :: enumD (i + 1) xs
theorem enum_at : ∀ {xs : List D} {j i : Nat} {d : D}, (enumD j xs)[i]? = some d → ∃ x, xs[i]? = some x ∧ d = .tup [.int ((j + i : Nat)), x]
  | [], j, i, d, h => by simp [enumD] at h
  | x :: xs, j, 0, d, h => by
    simp only [enumD, List.getElem?_cons_zero, Option.some.injEq] at h
    exact ⟨x, rfl, h.symm⟩
  | x :: xs, j, i + 1, d, h => by
    simp only [enumD, List.getElem?_cons_succ] at h
    obtain ⟨y, h1, h2⟩ := enum_at (j := j + 1) h
    exact ⟨y, by simpa using h1, by rw [h2]; congr 3; omega⟩
theorem enum_len : ∀ (xs : List D) (j : Nat), (enumD j xs).length = xs.length
  | [], _ => rfl
  | x :: xs, j => by simp [enumD, enum_len xs]
theorem isIt_en {K : PySem.W.Frag} {w : Wd} {ds : List D} {t : Nat} {a : Addr} {xs : List V} (h : LsAt w t a xs) (r : RpL K w ds xs) : IsIt K w (enumD 0 ds) (Ite K a) := fun w' k ok => by
  have ha := k.lst h
  have r' := r.mono k
  have hl := r'.length
  refine ⟨fun i d e => ?_, ⟨xs, ha.sq, by rw [enum_len]; omega⟩⟩
  obtain ⟨x, e1, rfl⟩ := enum_at e
  obtain ⟨v, f1, q1⟩ := r'.at e1
  refine ⟨⟨xs, v, ha.sq, f1⟩, fun z H'' yl => ?_⟩
  obtain ⟨T, v', rfl, hT, rfl, y1⟩ := yl
  have z1 := y1 xs ha.sq
  rw [f1] at z1
  cases z1
  refine ⟨Bh.new ok hT, rp_tup ok hT ⟨.int (i : Nat), [v], rfl, ?_, v, [], rfl, q1, rfl⟩⟩
  show V.int _ = V.int _
  rw [Nat.zero_add]
@[simp] def dEnum (ta : DA) : DI := fun ρ M Q => ta ρ M fun ds M1 => match ds with
  | [.lst _ xs] => Q (enumD 0 xs) M1
  | _ => False
theorem pdi_enum {elts : List Expr} {kk : Nat} {tpos : Pos} (hm : X.mg "enumerate" = none) (ha : PDA c X [e] tl) (hg : Gl X "enumerate" := by rfl) (hs : starEach [e] X.env = [(false, eval e X.env)] := by rfl) :
    PDI c X (.Tuple elts kk tpos) (.Call (.Name "enumerate" p) [e] [] pos) (dEnum tl) :=
  PI_imp (pi_enum hg hm ha hs) fun σ H R ⟨ρ, w, Q', hH, a, h, k⟩ => ⟨ρ, w, _, hH, a, h, fun ds w1 vs q b r => by
    match ds, r, q with
    | [d], r, q =>
      obtain ⟨v, rfl, r1⟩ := one_of r
      cases d with
      | lst t xs => obtain ⟨pa, as, rfl, l1, s1⟩ := r1; exact ⟨pa, as, rfl, l1.sq, k _ w1 _ q b (isIt_en l1 s1)⟩
      | _ => exact q.elim
    | [], r, q => exact False.elim q
    | d :: _ :: _, r, q => cases d <;> exact False.elim q⟩
end
end DL
/-! The data layer, part h: owned lists, a law's bag and its draws. -/
namespace DL
open PySem L2
def setM (M : Mu) (a : Addr) (m : MO) : Mu := fun b => if b = a then some m else M b
theorem setM_same {M : Mu} {a : Addr} {m : MO} : setM M a m a = some m := by unfold setM; rw [if_pos rfl]
theorem setM_ne {M : Mu} {a b : Addr} {m : MO} (h : b ≠ a) : setM M a m b = M b := by unfold setM; rw [if_neg h]
theorem setM_set {M : Mu} {a : Addr} {m n : MO} : setM (setM M a m) a n = setM M a n := by funext b; unfold setM; split <;> rfl
section
variable {K : PySem.W.Frag} {w : Wd} {a : Addr} {m : MO} {u : HO}
/-- an owned object changes -/
theorem Bh.own {m' : MO} (ok : Ok K w) (h : w.M a = some m) (hm : ∀ w', w'.H a = some u → Kp w w' → MOk K w' a m') : Bh K w { w with M := setM w.M a m', H := upd w.H a u } := by
  have hd := ok.ap a m h
  have hln : ∀ r b v, w.ln r b = some v → b ≠ a := fun r b v e z => by subst z; rw [(ok.lap r b v e).1] at h; cases h
  have kp : Kp w { w with M := setM w.M a m', H := upd w.H a u } := Kp.of (fun b v hf e _ => by
    have hne : b ≠ a := fun z => by subst z; have := hf.m; rw [h] at this; cases this
    exact ⟨⟨by show setM w.M a m' b = none; rw [setM_ne hne]; exact hf.m, hf.h, hf.l⟩, by show upd w.H a u b = _; rw [upd_ne hne]; exact e⟩) (fun r b v e => ⟨e, fun q => by show upd w.H a u b = _; rw [upd_ne (hln r b v e)]; exact q⟩) rfl rfl rfl
  obtain ⟨u0, e0, n1, n2⟩ := ok.plain h
  refine ⟨kp, ⟨fun b n e => ?_, fun b v e => ?_, fun b n e => ?_, fun r b v e => ?_, fun r b v e => ⟨?_, (ok.lap r b v e).2⟩, ok.lfr, ok.hl, ok.ll, tabs_upd ok.tabs e0 n1 n2⟩, rfl, rfl⟩
  · by_cases hb : b = a
    · subst hb
      have : m' = n := by have := (setM_same (M := w.M) (a := b) (m := m')).symm.trans e; exact Option.some.inj this
      subst this
      exact hm _ upd_same kp
    · have e' : w.M b = some n := by rw [← e]; exact (setM_ne hb).symm
      exact (ok.mo b n e').mono kp (by show upd w.H a u b = _; rw [upd_ne hb])
  · have hne : b ≠ a := fun z => by subst z; have e' : w.hd b = some v := e; rw [hd] at e'; cases e'
    show upd w.H a u b = _; rw [upd_ne hne]; exact ok.hid b v e
  · by_cases hb : b = a
    · subst hb; exact hd
    · have e' : w.M b = some n := by rw [← e]; exact (setM_ne hb).symm
      exact ok.ap b n e'
  · show upd w.H a u b = _; rw [upd_ne (hln r b v e)]; exact ok.len r b v e
  · show setM w.M a m' b = none; rw [setM_ne (hln r b v e)]; exact (ok.lap r b v e).1
/-- a new owned object -/
theorem Bh.newOwn {m' : MO} (ok : Ok K w) (h : w.H a = none) (hm : ∀ w', w'.H a = some u → Kp w w' → MOk K w' a m') : Bh K w { w with M := setM w.M a m', H := upd w.H a u } := by
  have hf := ok.fresh h
  have hln : ∀ r b v, w.ln r b = some v → b ≠ a := fun r b v e z => by subst z; rw [ok.len r b v e] at h; cases h
  have kp : Kp w { w with M := setM w.M a m', H := upd w.H a u } := Kp.of (fun b v hf e _ => by
    have hne : b ≠ a := ne_of_none e h
    exact ⟨⟨by show setM w.M a m' b = none; rw [setM_ne hne]; exact hf.m, hf.h, hf.l⟩, by show upd w.H a u b = _; rw [upd_ne hne]; exact e⟩) (fun r b v e => ⟨e, fun q => by show upd w.H a u b = _; rw [upd_ne (hln r b v e)]; exact q⟩) rfl rfl rfl
  refine ⟨kp, ⟨fun b n e => ?_, fun b v e => ?_, fun b n e => ?_, fun r b v e => ?_, fun r b v e => ⟨?_, (ok.lap r b v e).2⟩, ok.lfr, ok.hl, ok.ll, ok.tabs.ext fun b v q => by show upd w.H a u b = _; rw [upd_ne (ne_of_none q h)]; exact q⟩, rfl, rfl⟩
  · by_cases hb : b = a
    · subst hb
      have : m' = n := by have := (setM_same (M := w.M) (a := b) (m := m')).symm.trans e; exact Option.some.inj this
      subst this
      exact hm _ upd_same kp
    · have e' : w.M b = some n := by rw [← e]; exact (setM_ne hb).symm
      exact (ok.mo b n e').mono kp (by show upd w.H a u b = _; rw [upd_ne hb])
  · have hne : b ≠ a := fun z => by subst z; have e' : w.hd b = some v := e; rw [hf.h] at e'; cases e'
    show upd w.H a u b = _; rw [upd_ne hne]; exact ok.hid b v e
  · by_cases hb : b = a
    · subst hb; exact hf.h
    · have e' : w.M b = some n := by rw [← e]; exact (setM_ne hb).symm
      exact ok.ap b n e'
  · show upd w.H a u b = _; rw [upd_ne (hln r b v e)]; exact ok.len r b v e
  · show setM w.M a m' b = none; rw [setM_ne (hln r b v e)]; exact (ok.lap r b v e).1
end
theorem RpL.set {K : PySem.W.Frag} {w : Wd} {d : D} {v : V} (h : Rp K w d v) : ∀ {ds : List D} {vs : List V} (j : Nat), RpL K w ds vs → RpL K w (ds.set j d) (vs.set j v)
  | [], vs, j, r => by obtain rfl : vs = [] := r; exact rfl
  | e :: ds, vs, 0, r => by
    obtain ⟨x, q, rfl, r1, r2⟩ := r
    exact ⟨v, q, rfl, h, r2⟩
  | e :: ds, vs, j + 1, r => by
    obtain ⟨x, q, rfl, r1, r2⟩ := r
    exact ⟨x, q.set j v, rfl, r1, RpL.set h j r2⟩
section
variable {X : Cx} {c : Wd} {e o i : Expr} {es : List Expr} {te ta tb to' : DE} {tl : DA} {pos p apos : Pos} {vs : List Nat}
/-- [..]: a list that stays owned -/
@[simp] def dLstO (t : DA) : DE := fun ρ M Q => t ρ M fun ds M1 => ds.length ≤ 100000 ∧ ∀ a, M1 a = none → Q (.ref a) (setM M1 a (.lst ds))
theorem pd_lstO (h : PDA c X es tl) : PD c X (.List es pos) (dLstO tl) := PE_imp (pe_lst h) fun σ H Q ⟨ρ, w, Q', hH, a, h, k⟩ =>
  ⟨ρ, w, _, hH, a, h, fun ds w1 us q b1 r => ⟨sz (by rw [r.length]; exact q.1), fun p hp => k (.ref p) { w1 with M := setM w1.M p (.lst ds), H := upd w1.H p (.lst us) } (.ref p) (q.2 p (b1.ok.fresh hp).m)
    (b1.trans (Bh.newOwn b1.ok hp fun w' e k' => ⟨us, e, r.mono k'⟩)) rfl⟩⟩
/-- [cells, 0, 0, mark]: a bag -/
@[simp] def dBag (t : DA) : DE := fun ρ M Q => t ρ M fun ds M1 => (∃ (cs : List Int) (i r m : Int), ds = [.lst 0 (cs.map D.int), .int i, .int r, .int m] ∧ cs.length ≤ 63 ∧ 0 ≤ i) ∧ ∀ a, M1 a = none → Q (.ref a) (setM M1 a .bag)
theorem ints_of {K : PySem.W.Frag} {w : Wd} : ∀ {bs : List Int} {vs : List V}, RpL K w (bs.map D.int) vs → vs = bs.map V.int
  | [], vs, r => r
  | b :: bs, vs, r => by
    obtain ⟨x, q, rfl, r1, r2⟩ := r
    rw [ints_of r2, show x = V.int b from r1]; rfl
theorem bag_of {K : PySem.W.Frag} {w : Wd} {a : Addr} {cs : List Int} {i r m : Int} {us : List V} (e : w.H a = some (.lst us)) (h : RpL K w [.lst 0 (cs.map D.int), .int i, .int r, .int m] us) (hl : cs.length ≤ 63) (hi : 0 ≤ i) : BagAt w a := by
  obtain ⟨v1, q1, rfl, r1, v2, q2, rfl, r2, v3, q3, rfl, r3, v4, q4, rfl, r4, r5⟩ := h
  obtain ⟨cp, xs, rfl, l, s1⟩ := r1
  obtain rfl : v2 = .int i := r2
  obtain rfl : v3 = .int r := r3
  obtain rfl : v4 = .int m := r4
  obtain rfl : q4 = [] := r5
  exact ⟨cp, cs, i, r, m, e, by rw [← ints_of s1]; exact l, hl, hi⟩
theorem pd_bag (h : PDA c X es tl) : PD c X (.List es pos) (dBag tl) := PE_imp (pe_lst h) fun σ H Q ⟨ρ, w, Q', hH, a, h, k⟩ =>
  ⟨ρ, w, _, hH, a, h, fun ds w1 us q b1 r => by
    obtain ⟨⟨cs, i, rr, m, rfl, hl, hi⟩, q⟩ := q
    exact ⟨sz (by rw [r.length]; show 4 ≤ 100000; decide), fun p hp => k (.ref p) { w1 with M := setM w1.M p .bag, H := upd w1.H p (.lst us) } (.ref p) (q p (b1.ok.fresh hp).m)
      (b1.trans (Bh.newOwn b1.ok hp fun w' e k' => bag_of e (r.mono k') hl hi)) rfl⟩⟩
/-- o[i] = .., an owned list -/
@[simp] def gIx (to ti : DE) : DG := fun d ρ M Q => to ρ M fun x M1 => ti ρ M1 fun y M2 => match x, y with
  | .ref a, .int z => (match M2 a with | some (.lst ds) => (match ixN ds.length z with | some j => Q ρ (setM M2 a (.lst (ds.set j d))) | none => False) | _ => False)
  | _, _ => False
theorem pdg_ix {to ti : DE} (ho : PD c X o to) (hi : PD c X i ti)
    (ha : ∀ v, assign (.Subscript o i pos) X.env v = (do
      let ov ← holding [v] (eval o X.env)
      let iv ← holding [v, ov] (eval i X.env)
      standAt pos
      holding [v, ov, iv] (setItem ov iv v)
      release [v, ov, iv] []) := by intro _; rfl) : PDG c X vs (.Subscript o i pos) (gIx to ti) :=
  PG_imp (pg_sub ho hi set_list ha) fun v σ H Q ⟨d, ρ, w, Q', hH, a, r, h, k⟩ => ⟨ρ, w, _, hH, a, h, fun x w1 vx q b1 r1 => ⟨ρ, w1, _, rfl, a.next b1, q, fun y w2 vy q2 b2 r2 => by
    cases x with
    | ref ad =>
      cases y with
      | int z =>
        obtain rfl : vx = .ref ad := r1
        obtain rfl : vy = .int z := r2
        cases em : w2.M ad with
        | none => simp only [em] at q2
        | some m =>
          cases m with
          | lst ds =>
            simp only [em] at q2
            cases ej : ixN ds.length z with
            | none => simp only [ej] at q2
            | some j =>
              simp only [ej] at q2
              obtain ⟨xs, hx, s1⟩ := (show ∃ xs, w2.H ad = some (.lst xs) ∧ RpL X.K w2 ds xs from b2.ok.mo ad _ em)
              have b3 : Bh X.K w2 { w2 with M := setM w2.M ad (.lst (ds.set j d)), H := upd w2.H ad (.lst (xs.set j v)) } := Bh.own b2.ok em fun w' e k' => ⟨_, e, RpL.set (((r.mono b1.kp).mono b2.kp).mono k') j (s1.mono k')⟩
              exact ⟨ad, xs, z, j, rfl, rfl, hx, by rw [s1.length]; exact ej, k ρ { w2 with M := setM w2.M ad (.lst (ds.set j d)), H := upd w2.H ad (.lst (xs.set j v)) } σ q2 ((b1.trans b2).trans b3) (((a.next b1).next b2).next b3) (Ag.refl _ _)⟩
          | _ => simp only [em] at q2
      | _ => exact q2.elim
    | _ => exact q2.elim⟩⟩
/-- a, b = e1, e2 (two names) -/
theorem pds_par {x y : Str} {j l : Nat} {px py tp vp : Pos} {x1 x2 : Nat} {e1 e2 : Expr} (hN : X.N.Nodup) (ha : PDA c X [e1, e2] tl) (h : PS X (.Assign [.Tuple [.Name x px, .Name y py] x1 tp] (.Tuple [e1, e2] x2 vp) pos) (tPar j l (liftA X.K c tl))) :
    PDS c X (.Assign [.Tuple [.Name x px, .Name y py] x1 tp] (.Tuple [e1, e2] x2 vp) pos) (dPar j l tl) := PS_imp h fun D σ H ⟨ρ, w, D', hH, a, h, k⟩ => ⟨ρ, w, _, hH, a, h, fun ds w1 us q b r => by
    match ds, r, q with
    | [d1, d2], r, q =>
      obtain ⟨v1, v2, rfl, r1, r2⟩ := two_of r
      exact ⟨v1, v2, rfl, k.nx _ w1 _ q b (((a.next b).set r1).set r2)⟩
    | [], r, q => exact False.elim q
    | [_], r, q => exact False.elim q
    | _ :: _ :: _ :: _, r, q => exact False.elim q⟩
end

/-! ### the bag, opened for its own def alone -/
/-- a promise that speaks of the bag as an owned list gives one that keeps it shut -/
theorem open_bag {K : PySem.W.Frag} {cl : Str → Addr} {tb : List (Addr × Str)} {s' s : DSp} {vs : List V} {H : Hp} {Q : VK} {E : XK}
    (hs : ∀ ds M Q' E', s ds M Q' E' → ∃ b, M b = some .bag ∧ ∀ (cs : List Int) (i r m : Int), cs.length ≤ 63 → 0 ≤ i →
      s' ds (setM M b (.lst [.lst 0 (cs.map D.int), .int i, .int r, .int m])) (fun d M' => (∃ (i' r' m' : Int), 0 ≤ i' ∧ M' = setM M b (.lst [.lst 0 (cs.map D.int), .int i', .int r', .int m'])) ∧ Q' d M) DX0)
    (h : upX K cl tb s vs H Q E) : upX K cl tb s' vs H Q E := by
  obtain ⟨w, ds, Q', E', hH, hcc, ok, r, h, k, kx⟩ := h
  obtain ⟨b, hb, hs⟩ := hs ds _ _ _ h
  obtain ⟨cp, cs, i, rr, m, e, l, hl, hi⟩ := (show BagAt w b from ok.mo b _ hb)
  have hs := hs cs i rr m hl hi
  let D0 : List D := [.lst 0 (cs.map D.int), .int i, .int rr, .int m]
  let w' : Wd := { w with M := setM w.M b (.lst D0) }
  have fr : ∀ x, Fr w x ↔ Fr w' x := fun x => by
    by_cases hx : x = b
    · subst hx
      constructor
      · intro z; have := z.m; rw [hb] at this; cases this
      · intro z; have := z.m; rw [show w'.M x = some (.lst D0) from setM_same] at this; cases this
    · exact ⟨fun z => ⟨(setM_ne hx).trans z.m, z.h, z.l⟩, fun z => ⟨(setM_ne hx).symm.trans z.m, z.h, z.l⟩⟩
  have kp : Kp w w' := Kp.of (fun x u hf e _ => ⟨(fr x).mp hf, e⟩) (fun _ _ _ e => ⟨e, id⟩) rfl rfl rfl
  have rD : RpL K w' D0 [.ref cp, .int i, .int rr, .int m] := ⟨_, _, rfl, ⟨cp, cs.map V.int, rfl, kp.lst l, ints_rp cs⟩, _, _, rfl, rfl, _, _, rfl, rfl, _, _, rfl, rfl, rfl⟩
  have ok' : Ok K w' := ⟨fun x n q => by
      by_cases hx : x = b
      · subst hx
        have : n = .lst D0 := Option.some.inj (q.symm.trans setM_same)
        subst this
        exact ⟨_, e, rD⟩
      · have q' : w.M x = some n := by rw [← q]; exact (setM_ne hx).symm
        exact (ok.mo x n q').mono kp rfl, ok.hid, fun x n q => by
      by_cases hx : x = b
      · subst hx; exact ok.ap x _ hb
      · have q' : w.M x = some n := by rw [← q]; exact (setM_ne hx).symm
        exact ok.ap x n q', ok.len, fun r x u q => ⟨by
      have hx : x ≠ b := fun z => by subst z; rw [(ok.lap r x u q).1] at hb; cases hb
      exact (setM_ne hx).trans (ok.lap r x u q).1, (ok.lap r x u q).2⟩, ok.lfr, ok.hl, ok.ll, ok.tabs⟩
  refine ⟨w', ds, _, DX0, hH, ⟨hcc.cl, hcc.ex, hcc.tb⟩, ok', r.mono kp, hs, fun d w2 v q b2 rv => ?_, fun _ _ _ _ _ z => z.elim⟩
  obtain ⟨⟨i', r', m', hi', hM⟩, q⟩ := q
  -- the bag is shut again
  let w3 : Wd := { w2 with M := w.M }
  have fr3 : ∀ x, Fr w2 x ↔ Fr w3 x := fun x => by
    by_cases hx : x = b
    · subst hx
      constructor
      · intro z; have z1 := z.m; rw [hM, setM_same] at z1; cases z1
      · intro z; have z1 : w.M x = none := z.m; rw [hb] at z1; cases z1
    · have e : w2.M x = w.M x := by rw [hM]; exact setM_ne hx
      exact ⟨fun z => ⟨e.symm.trans z.m, z.h, z.l⟩, fun z => ⟨e.trans z.m, z.h, z.l⟩⟩
  have kp3 : Kp w2 w3 := Kp.of (fun x u hf e _ => ⟨(fr3 x).mp hf, e⟩) (fun _ _ _ e => ⟨e, id⟩) rfl rfl rfl
  have ok3 : Ok K w3 := ⟨fun x n q => by
      by_cases hx : x = b
      · subst hx
        have : n = .bag := by have q' : w.M x = some n := q; rw [hb] at q'; exact (Option.some.inj q').symm
        subst this
        obtain ⟨us, e1, s1⟩ := (show ∃ us, w2.H x = some (.lst us) ∧ RpL K w2 [.lst 0 (cs.map D.int), .int i', .int r', .int m'] us from b2.ok.mo x (.lst [.lst 0 (cs.map D.int), .int i', .int r', .int m']) (by rw [hM]; exact setM_same))
        exact bag_of (w := w3) e1 (s1.mono kp3) hl hi'
      · have q' : w2.M x = some n := by rw [hM, setM_ne hx]; exact q
        exact (b2.ok.mo x n q').mono kp3 rfl, b2.ok.hid, fun x n q => by
      have z : w2.hd = w.hd := b2.hd
      show w2.hd x = none
      rw [z]; exact ok.ap x n q, b2.ok.len, fun r x u q => ⟨by
      have z : w2.ln = w.ln := b2.ln
      have q' : w.ln r x = some u := by rw [← z]; exact q
      exact (ok.lap r x u q').1, (b2.ok.lap r x u q).2⟩, b2.ok.lfr, b2.ok.hl, b2.ok.ll, b2.ok.tabs⟩
  exact k d w3 v q ⟨(kp.trans b2.kp).trans kp3, ok3, b2.hd, b2.ln⟩ (rv.mono kp3)
end DL
/-! The data layer, part i: globals, negative numbers, plain lemmas. -/
namespace DL
open PySem L2 LamX
section
variable {X : Cx} {c : Wd} {e : Expr} {te : DE} {pos : Pos} {x : Str}
theorem pd_globI {i : Int} (h : ∃ t, X.mg x = some (.int i t)) (hg : Gl X x := by rfl) (hd : (x == ("__debug__" : Str)) = false := by decide) : PD c X (.Name x pos) (dC (.int i)) := by
  obtain ⟨t, h⟩ := h
  exact pd_glob hg h (v := .int i) ⟨t, rfl⟩ (fun _ => rfl) hd
theorem pd_globS {z : Str} (h : ∃ t, X.mg x = some (.str z t)) (hg : Gl X x := by rfl) (hd : (x == ("__debug__" : Str)) = false := by decide) : PD c X (.Name x pos) (dC (.str z)) := by
  obtain ⟨t, h⟩ := h
  exact pd_glob hg h (v := .str z) ⟨t, rfl⟩ (fun _ => rfl) hd
@[simp] def dNeg (t : DE) : DE := fun ρ M Q => t ρ M fun d M1 => match d with | .int i => Q (.int (-i)) M1 | _ => False
theorem neg_D : UnR X (unaryOp .USub) (fun x H Q => ∃ w d Q', w.H = H ∧ Ok X.K w ∧ Rp X.K w d x ∧ (match d with | .int i => Q' (.int (-i)) w.M | _ => False) ∧ Wv X.K w Q' Q) := by
  intro pins s σ H x v Q I rx ⟨w, d, Q', hH, ok, r, h, k⟩
  subst hH
  cases d with
  | int i => obtain rfl : x = .int i := r; exact un_neg pins s σ _ _ v Q I rx ⟨i, rfl, k.here ok h rfl⟩
  | _ => exact False.elim h
theorem pd_neg (h : PD c X e te) : PD c X (.UnaryOp .USub e pos) (dNeg te) := PE_imp (pe_un neg_D h) fun σ H Q ⟨ρ, w, Q', hH, a, h, k⟩ =>
  ⟨ρ, w, _, hH, a, h, fun d w1 v q b r => ⟨w1, d, Q', rfl, b.ok, r, q, k.back b⟩⟩
end
/-! ### plain data of bounded size -/
def gd : Nat → D → Bool
  | _, .non => true
  | _, .bl _ => true
  | _, .int _ => true
  | _, .str x => PyData.strOk x && decide (x.length ≤ 50000)
  | n + 1, .lst _ xs => decide (xs.length ≤ 50000) && xs.all (gd n)
  | n + 1, .tup xs => decide (xs.length ≤ 50000) && xs.all (gd n)
  | _, _ => false
theorem gd_ty {n : Nat} {d : D} (h : gd n d = true) : (tyN d).isSome = true := by
  cases d <;> first | rfl | (cases n <;> exact Bool.noConfusion (show false = true from h))
theorem gd_str {n : Nat} {z : Str} (h : gd n (.str z) = true) : PyData.strOk z = true ∧ z.length ≤ 50000 := by
  cases n <;> simpa [gd] using h
theorem gd_tup {n : Nat} {xs : List D} (h : gd (n + 1) (.tup xs) = true) : xs.length ≤ 50000 ∧ ∀ x ∈ xs, gd n x = true := by
  simpa [gd] using h
theorem gd_lst {n r : Nat} {xs : List D} (h : gd (n + 1) (.lst r xs) = true) : xs.length ≤ 50000 ∧ ∀ x ∈ xs, gd n x = true := by
  simpa [gd] using h
theorem gd_mono : ∀ {n : Nat} {d : D}, gd n d = true → gd (n + 1) d = true
  | n, .non, _ => rfl
  | n, .bl _, _ => rfl
  | n, .int _, _ => rfl
  | n, .str z, h => by cases n <;> simpa [gd] using h
  | 0, .lst _ xs, h => by simp [gd] at h
  | n + 1, .lst _ xs, h => by
    obtain ⟨h1, h2⟩ := gd_lst h
    simp only [gd, Bool.and_eq_true, decide_eq_true_eq, List.all_eq_true]
    exact ⟨h1, fun x hx => gd_mono (h2 x hx)⟩
  | 0, .tup xs, h => by simp [gd] at h
  | n + 1, .tup xs, h => by
    obtain ⟨h1, h2⟩ := gd_tup h
    simp only [gd, Bool.and_eq_true, decide_eq_true_eq, List.all_eq_true]
    exact ⟨h1, fun x hx => gd_mono (h2 x hx)⟩
  | n, .dct _, h => by cases n <;> simp [gd] at h
  | n, .obj _ _, h => by cases n <;> simp [gd] at h
  | n, .ref _, h => by cases n <;> simp [gd] at h
  | n, .ty _, h => by cases n <;> simp [gd] at h
  | n, .scr _, h => by cases n <;> simp [gd] at h
  | n, .exc _ _, h => by cases n <;> simp [gd] at h
  | n, .cls _, h => by cases n <;> simp [gd] at h
theorem gd_le {n m : Nat} {d : D} (h : gd n d = true) (hm : n ≤ m) : gd m d = true := by
  induction hm with
  | refl => exact h
  | step _ ih => exact gd_mono ih
theorem gd_py : ∀ {n : Nat} {d : D}, gd n d = true → pyN n d = true
  | n, .non, _ => by cases n <;> rfl
  | n, .bl _, _ => by cases n <;> rfl
  | n, .int _, _ => by cases n <;> rfl
  | n, .str z, h => by cases n <;> exact (gd_str h).1
  | 0, .lst _ xs, h => by simp [gd] at h
  | n + 1, .lst _ xs, h => by
    obtain ⟨h1, h2⟩ := gd_lst h
    simp only [pyN, List.all_eq_true]
    exact fun x hx => gd_py (h2 x hx)
  | 0, .tup xs, h => by simp [gd] at h
  | n + 1, .tup xs, h => by
    obtain ⟨h1, h2⟩ := gd_tup h
    simp only [pyN, List.all_eq_true]
    exact fun x hx => gd_py (h2 x hx)
  | n, .dct _, h => by cases n <;> simp [gd] at h
  | n, .obj _ _, h => by cases n <;> simp [gd] at h
  | n, .ref _, h => by cases n <;> simp [gd] at h
  | n, .ty _, h => by cases n <;> simp [gd] at h
  | n, .scr _, h => by cases n <;> simp [gd] at h
  | n, .exc _ _, h => by cases n <;> simp [gd] at h
  | n, .cls _, h => by cases n <;> simp [gd] at h
@[simp] theorem eqB_bl (a b : Bool) : eqB (.bl a) (.bl b) = (a == b) := rfl
@[simp] theorem eqB_int (a b : Int) : eqB (.int a) (.int b) = (a == b) := rfl
@[simp] theorem eqB_str (a b : Str) : eqB (.str a) (.str b) = (a == b) := rfl
@[simp] theorem eqOk_bl (a b : Bool) : eqOk (.bl a) (.bl b) = true := rfl
@[simp] theorem eqOk_int (a b : Int) : eqOk (.int a) (.int b) = true := rfl
@[simp] theorem eqOk_str (a b : Str) : eqOk (.str a) (.str b) = true := rfl
/-! ### a law's own promises -/
/-- a number below many is drawn from the bag at b -/
def spDraw : DSp := fun ds M Q _ => ∃ b many, ds = [.ref b, .int many] ∧ M b = some .bag ∧ (0 < many ∧ many < 1073741824) ∧ ∀ n : Int, 0 ≤ n → n < many → Q (.int n) M
def spPick : DSp := fun ds M Q _ => (∃ b r xs, ds = [.ref b, .lst r xs] ∧ M b = some .bag ∧ (0 < xs.length ∧ xs.length ≤ 100000) ∧ ∀ x ∈ xs, Q x M) ∨
  (∃ b xs, ds = [.ref b, .tup xs] ∧ M b = some .bag ∧ (0 < xs.length ∧ xs.length ≤ 100000) ∧ ∀ x ∈ xs, Q x M) ∨
  ∃ b z, ds = [.ref b, .str z] ∧ M b = some .bag ∧ (0 < z.length ∧ z.length ≤ 100000) ∧ ∀ ch ∈ z.cps.toList, Q (.str ⟨#[ch]⟩) M
def spBag : DSp := fun ds M Q _ => ∃ ns : List Int, ds = [.scr ns] ∧ ns.length ≤ 63 ∧ ∀ b, M b = none → Q (.ref b) (setM M b .bag)
def spLaw : DSp := fun ds M Q _ => ∃ ns : List Int, ds = [.scr ns] ∧ ns.length ≤ 63 ∧ M = (fun _ => none) ∧ ∀ M', Q (.bl true) M'
/-- same of two plain data -/
def spSame (n : Nat) : DSp := fun ds M Q _ => ∃ x y, ds = [x, y] ∧ gd n x = true ∧ gd n y = true ∧ ∀ k : Bool, (k = true ↔ py x = py y) → Q (.bl k) M
theorem atI_some {α : Type} {xs : List α} {i : Int} (h0 : 0 ≤ i) (h1 : i < xs.length) : ∃ x, atI xs i = some x ∧ x ∈ xs := by
  unfold atI ixN
  rw [if_pos h0, if_pos h1]
  have h2 : i.toNat < xs.length := by omega
  exact ⟨xs[i.toNat], by simp [h2], List.getElem_mem h2⟩
/-! ### comprehensions, by what their elements are -/
theorem compi_of {α : Type} {g : DG} {te : DE} {ρ : DEnv} {M : Mu} {h f : α → D} : ∀ (l : List α) (acc : List D) (Q : DK), (∀ a ∈ l, ∀ Q : DK, Q (f a) M → g (h a) ρ M fun ρ1 M1 => te ρ1 M1 Q) → acc.length + l.length ≤ 100000 → Q (.lst 0 (acc ++ l.map f)) M → compi g dYes te ρ (l.map h) acc M Q
  | [], acc, Q, _, hl, q => by simpa [compi] using q
  | x :: xs, acc, Q, hh, hl, q => by
    rw [List.map_cons, compi]
    show g (h x) ρ M fun ρ1 M1 => te ρ1 M1 fun d M3 => acc.length < 100000 ∧ compi g dYes te ρ (xs.map h) (acc ++ [d]) M3 Q
    refine hh x List.mem_cons_self _ ⟨by simp at hl; omega, compi_of xs (acc ++ [f x]) Q (fun y hy => hh y (List.mem_cons_of_mem _ hy)) (by simp at hl ⊢; omega) ?_⟩
    simpa using q
/-- each element is some datum with P -/
theorem compi_any {g : DG} {te : DE} {ρ : DEnv} {M : Mu} {P : D → Prop} : ∀ (xs acc : List D) (Q : DK), (∀ x ∈ xs, ∀ Q : DK, (∀ d, P d → Q d M) → g x ρ M fun ρ1 M1 => te ρ1 M1 Q) → acc.length + xs.length ≤ 100000 →
    (∀ ds : List D, ds.length = xs.length → (∀ d ∈ ds, P d) → Q (.lst 0 (acc ++ ds)) M) → compi g dYes te ρ xs acc M Q
  | [], acc, Q, _, hl, q => by simpa [compi] using q [] rfl (by simp)
  | x :: xs, acc, Q, hh, hl, q => by
    rw [compi]
    show g x ρ M fun ρ1 M1 => te ρ1 M1 fun d M3 => acc.length < 100000 ∧ compi g dYes te ρ xs (acc ++ [d]) M3 Q
    refine hh x List.mem_cons_self _ fun d hd => ⟨by simp at hl; omega, compi_any xs (acc ++ [d]) Q (fun y hy => hh y (List.mem_cons_of_mem _ hy)) (by simp at hl ⊢; omega) fun ds h1 h2 => ?_⟩
    have := q (d :: ds) (by simp [h1]) (by simpa using ⟨hd, h2⟩)
    simpa using this
theorem rngD_len (lo : Int) (n : Nat) : (rngD lo n).length = n := by simp [rngD]
theorem signs_len (z : Str) : (signs z).length = z.length := by simp [signs, Str.length]
/-- each element is some datum in a relation to its item -/
theorem compi_rel {g : DG} {te : DE} {ρ : DEnv} {M : Mu} {P : D → D → Prop} : ∀ (xs acc : List D) (Q : DK), (∀ x ∈ xs, ∀ Q : DK, (∀ d, P x d → Q d M) → g x ρ M fun ρ1 M1 => te ρ1 M1 Q) → acc.length + xs.length ≤ 100000 →
    (∀ ds : List D, Paired P xs ds → Q (.lst 0 (acc ++ ds)) M) → compi g dYes te ρ xs acc M Q
  | [], acc, Q, _, hl, q => by simpa [compi] using q [] .nil
  | x :: xs, acc, Q, hh, hl, q => by
    rw [compi]
    show g x ρ M fun ρ1 M1 => te ρ1 M1 fun d M3 => acc.length < 100000 ∧ compi g dYes te ρ xs (acc ++ [d]) M3 Q
    refine hh x List.mem_cons_self _ fun d hd => ⟨by simp at hl; omega, compi_rel xs (acc ++ [d]) Q (fun y hy => hh y (List.mem_cons_of_mem _ hy)) (by simp at hl ⊢; omega) fun ds h1 => ?_⟩
    have := q (d :: ds) (.cons hd h1)
    simpa using this
/-- the answers of same, pair by pair -/
theorem same_all : ∀ {xs ys ds : List D}, xs.length = ys.length → Paired (fun z d => ∀ x y, z = .tup [x, y] → ∃ k : Bool, d = .bl k ∧ (k = true ↔ py x = py y)) (zipD xs ys) ds → ∃ bs : List Bool, ds = bs.map D.bl ∧ (bs.all id = true ↔ xs.map py = ys.map py)
  | [], [], ds, _, h => by cases h; exact ⟨[], rfl, by simp⟩
  | [], _ :: _, _, h, _ => by cases h
  | _ :: _, [], _, h, _ => by cases h
  | x :: xs, y :: ys, ds, hl, h => by
    have e : zipD (x :: xs) (y :: ys) = .tup [x, y] :: zipD xs ys := rfl
    rw [e] at h
    cases h with
    | cons h1 h2 =>
      obtain ⟨k, rfl, hk⟩ := h1 x y rfl
      obtain ⟨bs, rfl, hb⟩ := same_all (by simpa using hl) h2
      refine ⟨k :: bs, rfl, ?_⟩
      simp only [List.all_cons, id, Bool.and_eq_true, List.map_cons, List.cons.injEq]
      rw [hk]
      exact and_congr_right fun _ => hb
def spPrev : Nat → DSp
  | 0 => fun _ _ _ _ => False
  | n + 1 => spSame n
theorem pyN_lst {n r : Nat} {xs : List D} (h : pyN (n + 1) (.lst r xs) = true) : ∀ x ∈ xs, pyN n x = true := by simpa [pyN] using h
theorem pyN_tup {n : Nat} {xs : List D} (h : pyN (n + 1) (.tup xs) = true) : ∀ x ∈ xs, pyN n x = true := by simpa [pyN] using h
/-! ### texts -/
theorem strs_ex {p : Str → Prop} : ∀ {ds : List D}, (∀ d ∈ ds, ∃ z, d = .str z ∧ p z) → ∃ ys : List Str, ds = ys.map D.str ∧ ∀ y ∈ ys, p y
  | [], _ => ⟨[], rfl, by simp⟩
  | d :: ds, h => by
    obtain ⟨z, rfl, hz⟩ := h d List.mem_cons_self
    obtain ⟨ys, rfl, hy⟩ := strs_ex (ds := ds) fun e he => h e (List.mem_cons_of_mem _ he)
    exact ⟨z :: ys, rfl, by simpa using ⟨hz, hy⟩⟩
theorem joinL_nil : ∀ l : List (List Nat), TL.joinL [] l = l.flatten
  | [] => rfl
  | [p] => by simp [TL.joinL]
  | p :: q :: r => by simp [TL.joinL, joinL_nil (q :: r)]
theorem join0_tl (ys : List Str) : (Txt.join "" ys).cps.toList = (ys.map fun y => y.cps.toList).flatten := by
  rw [TL.join_eq]
  have h := TL.tl_join "" ys
  have e : TL.tl ("" : Str) = [] := by decide +kernel
  rw [e, joinL_nil] at h
  exact h
theorem len_cps (z : Str) : z.cps.toList.length = z.length := by simp [Str.length]
theorem strOk_iff (z : Str) : PyData.strOk z = true ↔ ∀ c ∈ z.cps.toList, c < 1114112 := by
  unfold PyData.strOk
  rw [Array.all_eq_true_iff_forall_mem]
  simp
theorem app_tl (a b : Str) : (a ++ b).cps.toList = a.cps.toList ++ b.cps.toList := by
  show (a.cps ++ b.cps).toList = _
  simp
theorem app_len (a b : Str) : (a ++ b).length = a.length + b.length := by
  rw [← len_cps, app_tl, List.length_append, len_cps, len_cps]
theorem strOk_app {a b : Str} (ha : PyData.strOk a = true) (hb : PyData.strOk b = true) : PyData.strOk (a ++ b) = true := by
  rw [strOk_iff] at *
  intro c hc
  rw [app_tl] at hc
  rcases List.mem_append.mp hc with h | h
  · exact ha c h
  · exact hb c h
theorem cutS_tl (z : Str) (lo hi : Option Int) : (cutS z lo hi).cps.toList = cut z.cps.toList lo hi := by
  unfold cutS cut
  rw [len_cps]
theorem cutS_len (z : Str) (lo hi : Option Int) : (cutS z lo hi).length ≤ z.length := by
  rw [← len_cps, cutS_tl, ← len_cps z]
  exact cut_len _ _ _
theorem cut_mem {α : Type} {xs : List α} {lo hi : Option Int} {x : α} (h : x ∈ cut xs lo hi) : x ∈ xs := List.mem_of_mem_drop (List.mem_of_mem_take h)
theorem strOk_cut {z : Str} (h : PyData.strOk z = true) (lo hi : Option Int) : PyData.strOk (cutS z lo hi) = true := by
  rw [strOk_iff] at *
  intro c hc
  rw [cutS_tl] at hc
  exact h c (cut_mem hc)
theorem flat_len {ys : List Str} {n : Nat} (h : ∀ y ∈ ys, y.length ≤ n) : ((ys.map fun y => y.cps.toList).flatten).length ≤ ys.length * n := by
  induction ys with
  | nil => simp
  | cons y ys ih =>
    have h1 := h y List.mem_cons_self
    have h2 := ih fun z hz => h z (List.mem_cons_of_mem _ hz)
    rw [List.map_cons, List.flatten_cons, List.length_append, len_cps, List.length_cons, Nat.add_mul]
    omega
theorem sum_len {ys : List Str} {n : Nat} (h : ∀ y ∈ ys, y.length ≤ n) : (ys.map (·.length)).sum ≤ ys.length * n := by
  induction ys with
  | nil => simp
  | cons y ys ih =>
    have h1 := h y List.mem_cons_self
    have h2 := ih fun z hz => h z (List.mem_cons_of_mem _ hz)
    rw [List.map_cons, List.sum_cons, List.length_cons, Nat.add_mul]
    omega
theorem join0_ok {ys : List Str} (h : ∀ y ∈ ys, PyData.strOk y = true) : PyData.strOk (Txt.join "" ys) = true := by
  rw [strOk_iff, join0_tl]
  intro c hc
  obtain ⟨l, hl, hc⟩ := List.mem_flatten.mp hc
  obtain ⟨y, hy, rfl⟩ := List.mem_map.mp hl
  exact (strOk_iff y).mp (h y hy) c hc
theorem join0_len {ys : List Str} {n : Nat} (h : ∀ y ∈ ys, y.length ≤ n) : (Txt.join "" ys).length ≤ ys.length * n := by
  rw [← len_cps, join0_tl]
  exact flat_len h
/-! ### statements, one at a time: what an expression gives, then the rest -/
section
variable {t u : DS} {te : DE} {tt : DT} {ti : DI} {g : DG} {E : DEnds} {ρ : DEnv} {M : Mu} {i j : Nat} {v v' : D} {b : Bool} {ds : List D}
theorem x_seq (h : t { nx := u E, rt := E.rt, bk := E.bk, ct := E.ct } ρ M) : dSeq t u E ρ M := h
theorem x_set (h : ∀ K : DK, K v M → te ρ M K) (k : E.nx (ρ.set i (some v)) M) : dAsg te (gNm i) E ρ M := h _ k
theorem x_setP (P : D → Mu → Prop) (h : ∀ K : DK, (∀ d M1, P d M1 → K d M1) → te ρ M K) (k : ∀ d M1, P d M1 → E.nx (ρ.set i (some d)) M1) : dAsg te (gNm i) E ρ M := h _ k
theorem x_asg (h : ∀ K : DK, K v M → te ρ M K) (k : g v ρ M E.nx) : dAsg te g E ρ M := h _ k
theorem x_par {ta : DA} (h : ∀ K : List D → Mu → Prop, K [v, v'] M → ta ρ M K) (k : E.nx ((ρ.set i (some v)).set j (some v')) M) : dPar i j ta E ρ M := h _ k
theorem x_parP {ta : DA} (P : D → D → Prop) (h : ∀ K : List D → Mu → Prop, (∀ v v', P v v' → K [v, v'] M) → ta ρ M K) (k : ∀ v v', P v v' → E.nx ((ρ.set i (some v)).set j (some v')) M) : dPar i j ta E ρ M := h _ k
theorem x_if (h : ∀ K : Bool → Mu → Prop, K b M → tt ρ M K) (h1 : b = true → t E ρ M) (h2 : b = false → u E ρ M) : dIfS tt t u E ρ M := h _ (by
  cases b with
  | true => exact iteT (h1 rfl)
  | false => exact iteF (h2 rfl))
theorem x_ifP (P : Bool → Prop) (h : ∀ K : Bool → Mu → Prop, (∀ b, P b → K b M) → tt ρ M K) (h1 : P true → t E ρ M) (h2 : P false → u E ρ M) : dIfS tt t u E ρ M := h _ fun b hb => by
  cases b with
  | true => exact iteT (h1 hb)
  | false => exact iteF (h2 hb)
theorem x_ret (h : ∀ K : DK, K v M → te ρ M K) (k : E.rt v M) : dRet te E ρ M := h _ k
theorem x_retP (P : D → Mu → Prop) (h : ∀ K : DK, (∀ d M1, P d M1 → K d M1) → te ρ M K) (k : ∀ d M1, P d M1 → E.rt d M1) : dRet te E ρ M := h _ k
theorem x_drop (h : ∀ K : DK, K v M → te ρ M K) (k : E.nx ρ M) : dDrop te E ρ M := h _ k
theorem x_for (h : ∀ K : List D → Mu → Prop, K ds M → ti ρ M K) (k : fori g t ds E ρ M) : dFor ti g t E ρ M := h _ k
theorem x_forP (P : List D → Mu → Prop) (h : ∀ K : List D → Mu → Prop, (∀ ds M1, P ds M1 → K ds M1) → ti ρ M K) (k : ∀ ds M1, P ds M1 → fori g t ds E ρ M1) : dFor ti g t E ρ M := h _ k
theorem x_nil {nx : DEnv → Mu → Prop} {rt : DK} {bk ct : DEnv → Mu → Prop} (k : nx ρ M) : fori g t [] { nx := nx, rt := rt, bk := bk, ct := ct } ρ M := k
theorem x_cons {x : D} {xs : List D} (k : g x ρ M fun ρ1 M1 => t { nx := fori g t xs E, rt := E.rt, bk := E.nx, ct := fori g t xs E } ρ1 M1) : fori g t (x :: xs) E ρ M := k
end
/-! ### the same with what stands behind -/
section
variable {t u w' : DS} {te : DE} {tt : DT} {ti : DI} {g : DG} {E : DEnds} {ρ : DEnv} {M : Mu} {i j : Nat} {v v' : D} {b : Bool} {ds : List D}
theorem s_set (h : ∀ K : DK, K v M → te ρ M K) (k : u E (ρ.set i (some v)) M) : dSeq (dAsg te (gNm i)) u E ρ M := h _ k
theorem s_setP (P : D → Mu → Prop) (h : ∀ K : DK, (∀ d M1, P d M1 → K d M1) → te ρ M K) (k : ∀ d M1, P d M1 → u E (ρ.set i (some d)) M1) : dSeq (dAsg te (gNm i)) u E ρ M := h _ k
/-- .. the store as it was -/
theorem s_setQ (P : D → Prop) (h : ∀ K : DK, (∀ d, P d → K d M) → te ρ M K) (k : ∀ d, P d → u E (ρ.set i (some d)) M) : dSeq (dAsg te (gNm i)) u E ρ M := h _ k
theorem s_asg (h : ∀ K : DK, K v M → te ρ M K) (k : g v ρ M (u E)) : dSeq (dAsg te g) u E ρ M := h _ k
theorem s_par {ta : DA} (h : ∀ K : List D → Mu → Prop, K [v, v'] M → ta ρ M K) (k : u E ((ρ.set i (some v)).set j (some v')) M) : dSeq (dPar i j ta) u E ρ M := h _ k
theorem s_parP {ta : DA} (P : D → D → Prop) (h : ∀ K : List D → Mu → Prop, (∀ v v', P v v' → K [v, v'] M) → ta ρ M K) (k : ∀ v v', P v v' → u E ((ρ.set i (some v)).set j (some v')) M) : dSeq (dPar i j ta) u E ρ M := h _ k
theorem s_if (h : ∀ K : Bool → Mu → Prop, K b M → tt ρ M K) (h1 : b = true → t { nx := u E, rt := E.rt, bk := E.bk, ct := E.ct } ρ M) (h2 : b = false → w' { nx := u E, rt := E.rt, bk := E.bk, ct := E.ct } ρ M) : dSeq (dIfS tt t w') u E ρ M := x_if h h1 h2
theorem s_ifP (P : Bool → Prop) (h : ∀ K : Bool → Mu → Prop, (∀ b, P b → K b M) → tt ρ M K) (h1 : P true → t { nx := u E, rt := E.rt, bk := E.bk, ct := E.ct } ρ M) (h2 : P false → w' { nx := u E, rt := E.rt, bk := E.bk, ct := E.ct } ρ M) : dSeq (dIfS tt t w') u E ρ M := x_ifP P h h1 h2
theorem s_drop (h : ∀ K : DK, K v M → te ρ M K) (k : u E ρ M) : dSeq (dDrop te) u E ρ M := h _ k
theorem s_for (h : ∀ K : List D → Mu → Prop, K ds M → ti ρ M K) (k : fori g t ds { nx := u E, rt := E.rt, bk := E.bk, ct := E.ct } ρ M) : dSeq (dFor ti g t) u E ρ M := h _ k
theorem s_forP (P : List D → Mu → Prop) (h : ∀ K : List D → Mu → Prop, (∀ ds M1, P ds M1 → K ds M1) → ti ρ M K) (k : ∀ ds M1, P ds M1 → fori g t ds { nx := u E, rt := E.rt, bk := E.bk, ct := E.ct } ρ M1) : dSeq (dFor ti g t) u E ρ M := h _ k
theorem s_ix {a n : Nat} {z : Int} {p : Addr} {xs : List D} (hρ : ρ[a]? = some (some (.ref p))) (hM : M p = some (.lst xs)) (hj : ixN xs.length z = some n) (h : ∀ K : DK, K v M → te ρ M K) (k : u E ρ (setM M p (.lst (xs.set n v)))) : dSeq (dAsg te (gIx (dVar a) (dC (.int z)))) u E ρ M :=
  h _ (by simp only [gIx, dVar, dC, hρ, hM, hj]; exact k)
theorem x_ix {a n : Nat} {z : Int} {p : Addr} {xs : List D} (hρ : ρ[a]? = some (some (.ref p))) (hM : M p = some (.lst xs)) (hj : ixN xs.length z = some n) (h : ∀ K : DK, K v M → te ρ M K) (k : E.nx ρ (setM M p (.lst (xs.set n v)))) : dAsg te (gIx (dVar a) (dC (.int z))) E ρ M :=
  h _ (by simp only [gIx, dVar, dC, hρ, hM, hj]; exact k)
theorem s_next {nx : DEnv → Mu → Prop} {rt : DK} {bk ct : DEnv → Mu → Prop} (k : nx ρ M) : dNext { nx := nx, rt := rt, bk := bk, ct := ct } ρ M := k
end
/-! ### the law's entry, the bag shut, same at each depth -/
theorem law_in {K : PySem.W.Frag} {H : Hp} {a : Addr} {ns : List Int} {cl : Str → Addr} {tb : List (Addr × Str)} (hl : ns.length ≤ 63) (hS : SqL K H a (ns.map V.int)) (hT : Tabs tb H) : ∃ w : Wd, w.H = H ∧ Cc cl tb w ∧ Ok K w ∧ RpL K w [.scr ns] [.ref a] ∧ w.M = fun _ => none := by
  refine ⟨{ hd := fun _ => none, ln := fun _ _ => none, ex := none, cl := cl, tb := tb, M := fun _ => none, H := H }, rfl, ⟨rfl, rfl, rfl⟩, ⟨fun _ _ e => (by cases e), fun _ _ e => (by cases e), fun _ _ e => (by cases e), fun _ _ _ e => (by cases e), fun _ _ _ e => (by cases e), ⟨0, fun _ _ _ => rfl⟩, fun _ _ e => (by cases e), fun _ _ _ e => (by cases e), hT⟩, ⟨.ref a, [], rfl, ⟨a, rfl, ?_⟩, rfl⟩, rfl⟩
  rcases hS with h | h
  · exact .inl ⟨⟨rfl, rfl, fun _ => rfl⟩, h⟩
  · exact .inr fun H' => .inr h
/-- a promise of the bag's own def, opened -/
def spDraw0 : DSp := fun ds M Q _ => ∃ b many, ∃ (cs : List Int) (i r m : Int), ds = [.ref b, .int many] ∧ M b = some (.lst [.lst 0 (cs.map D.int), .int i, .int r, .int m]) ∧ 0 ≤ i ∧ (0 < many ∧ many < 1073741824) ∧
  ∀ n i' r' : Int, 0 ≤ n → n < many → 0 ≤ i' → Q (.int n) (setM M b (.lst [.lst 0 (cs.map D.int), .int i', .int r', .int m]))
theorem draw_ok {P : Program} {w : World} {K : PySem.W.Frag} {mg : Str → Option Value} {base : Heap} {cl : Str → Addr} {tb : List (Addr × Str)} {CX : CXT} {k : Nat} {f : Addr} {fd : FuncData} {ps : List Str} (F : FnOk P w K mg base CX k f fd ps (upX K cl tb spDraw0)) : FnOk P w K mg base CX k f fd ps (upX K cl tb spDraw) :=
  F.imp fun vs H Q E h => open_bag (s := spDraw) (s' := spDraw0) (fun ds M Q' E' hs => by
    obtain ⟨b, many, rfl, hb, hm, q⟩ := hs
    refine ⟨b, hb, fun cs i r m hl hi => ⟨b, many, cs, i, r, m, rfl, setM_same, hi, hm, fun n i' r' h0 h1 hi' => ⟨⟨i', r', m, hi', setM_set⟩, q n h0 h1⟩⟩⟩) h
/-- a promise that nobody asks for -/
theorem Fnd.no {P : Program} {w : World} {K : PySem.W.Frag} {mg : Str → Option Value} {base : Heap} {cl : Str → Addr} {tb : List (Addr × Str)} {k : Nat} {x : Str} {st : Stmt} {ps : List Str} {f : Addr} {fd : FuncData} (F : FunD K x x (defArgs st) (defBody st) (defScope st) [] [] f fd) (hm : mg x = some (.ref f)) (hb : Binds K fd ps []) : Fnd P w K mg base cl tb k x st ps (spPrev 0) :=
  ⟨f, fd, F, ⟨fun _ _ _ _ ⟨_, _, _, _, _, _, _, _, h, _⟩ => h.elim, fun _ _ _ _ _ _ _ _ _ _ _ _ _ ⟨_, _, _, _, _, _, _, _, h, _⟩ => h.elim⟩, hm, hb⟩
end DL
/-! The data layer, part o: what the head tells of own exceptions, of tuples and dicts of the module. -/
namespace DL
open PySem L2 LamX
/-- an own class over ValueError, with its own __init__ -/
def oexB (K : PySem.W.Frag) (C : Addr) : Bool := (match K.lookup C with
  | some ⟨.type "type", _, .cls cd, sl⟩ => (match cd.mro, sl.toList with
    | .ref C' :: bm, [_, _, _, _, some (.builtin n), _] => C' == C && n == "ValueError.__new__" && !cd.hasDel && cd.hasDict && HandSPX.refsVE bm
    | _, _ => false)
  | _ => false) && (He.eqO (PySem.W.findIn K (.ref C) "__setattr__") (some (some (.builtin "object.__setattr__"))) && (decide (PySem.W.subIn K (.ref C) (.type "BaseException") = some true) && (decide (PySem.W.typeIn K (.ref C) = some (.type "type")) && PySem.W.keepIn K (.ref C))))
theorem oexB_ok {K : PySem.W.Frag} {C : Addr} (h : oexB K C = true) : OexC K C := by
  unfold oexB at h
  obtain ⟨q, h⟩ := He.ba h
  obtain ⟨h1, h⟩ := He.ba h
  obtain ⟨h2, h⟩ := He.ba h
  obtain ⟨h3, h4⟩ := He.ba h
  refine ⟨?_, He.eqO_ok h1, of_decide_eq_true h2, of_decide_eq_true h3, h4⟩
  split at q
  · rename_i dd cd sl ho
    split at q
    · rename_i C' bm k0 k1 k2 k3 n k5 hm hs
      simp only [Bool.and_eq_true, beq_iff_eq, Bool.not_eq_true'] at q
      obtain ⟨⟨⟨⟨rfl, rfl⟩, hdel⟩, hdi⟩, ht⟩ := q
      obtain ⟨nm, bs, mro, ns, qn, hd, sn, sub, ab, col, del⟩ := cd
      dsimp only at hm hdel hdi
      subst hm hdel hdi
      have hsl : sl = #[k0, k1, k2, k3, some (.builtin "ValueError.__new__"), k5] := by
        obtain ⟨l⟩ := sl
        simp only at hs
        rw [hs]
      subst hsl
      exact ⟨nm, qn, ns, bs, bm, sn, sub, ab, col, dd, k0, k1, k2, k3, k5, ho, ht⟩
    · cases q
  · cases q
/-- its __init__ -/
def iniB (K : PySem.W.Frag) (C : Addr) : Bool := He.eqO (PySem.W.findIn K (.ref C) "__init__") (some (some (.ref (He.ma K C "__init__")))) && decide (PySem.W.typeIn K (.ref (He.ma K C "__init__")) = some (.type "function"))
theorem iniB_ok {K : PySem.W.Frag} {C : Addr} (h : iniB K C = true) : PySem.W.findIn K (.ref C) "__init__" = some (some (.ref (He.ma K C "__init__"))) ∧ PySem.W.typeIn K (.ref (He.ma K C "__init__")) = some (.type "function") := by
  obtain ⟨h1, h2⟩ := He.ba h
  exact ⟨He.eqO_ok h1, of_decide_eq_true h2⟩
def noB (K : PySem.W.Frag) (C : Addr) (fs : List Str) : Bool := fs.all fun f => He.eqO (PySem.W.findIn K (.ref C) f) (some none)
theorem noB_ok {K : PySem.W.Frag} {C : Addr} {fs : List Str} (h : noB K C fs = true) {f : Str} (hf : f ∈ fs) : PySem.W.findIn K (.ref C) f = some none := He.eqO_ok (List.all_eq_true.mp h f hf)
/-! ### constants of the module -/
/-- the written value u is this data -/
def cstB (K : PySem.W.Frag) : Nat → Value → D → Bool
  | _, .none, .non => true
  | _, .bool b, .bl c => b == c
  | _, .int i _, .int j => decide (i = j)
  | _, .str x _, .str y => decide (x = y)
  | _, .type m, .ty n => decide (m = n)
  | n + 1, .ref a, .tup ds => (match K.lookup a with
    | some ⟨.type c, _, .seq its _, _⟩ => decide (c = "tuple") && (decide (its.size ≤ sizeLine) && (decide (its.toList.length = ds.length) && (its.toList.zip ds).all fun p => cstB K n p.1 p.2))
    | _ => false)
  | _, _, _ => false
theorem cst_list {K : PySem.W.Frag} {n : Nat} (ih : ∀ u d, cstB K n u d = true → ∃ v, RelV v u ∧ ∀ w, Rp K w d v) : ∀ (us : List Value) (ds : List D), us.length = ds.length → ((us.zip ds).all fun p => cstB K n p.1 p.2) = true → ∃ vs, Vals vs us ∧ ∀ w, RpL K w ds vs
  | [], [], _, _ => ⟨[], .nil, fun _ => rfl⟩
  | [], _ :: _, h, _ => by cases h
  | _ :: _, [], h, _ => by cases h
  | u :: us, d :: ds, hl, h => by
    rw [List.zip_cons_cons, List.all_cons, Bool.and_eq_true] at h
    obtain ⟨v, r, hv⟩ := ih u d h.1
    obtain ⟨vs, rs, hvs⟩ := cst_list ih us ds (by simpa using hl) h.2
    exact ⟨v :: vs, .cons r rs, fun w => ⟨v, vs, rfl, hv w, hvs w⟩⟩
theorem cst_ok {K : PySem.W.Frag} : ∀ (n : Nat) (u : Value) (d : D), cstB K n u d = true → ∃ v, RelV v u ∧ ∀ w, Rp K w d v := by
  have flat : ∀ (n : Nat) (u : Value) (d : D), (∀ ds, d ≠ .tup ds) → cstB K n u d = true → ∃ v, RelV v u ∧ ∀ w, Rp K w d v := by
    intro n u d hd h
    cases d <;> cases u <;> cases n <;> first
      | exact absurd rfl (hd _)
      | exact ⟨.non, rfl, fun _ => rfl⟩
      | (obtain rfl := beq_iff_eq.mp (show (_ == _) = true from h); exact ⟨.bl _, rfl, fun _ => rfl⟩)
      | (obtain rfl := of_decide_eq_true (show decide _ = true from h); first | exact ⟨.int _, ⟨_, rfl⟩, fun _ => rfl⟩ | exact ⟨.str _, ⟨_, rfl⟩, fun _ => rfl⟩ | exact ⟨.ty _, rfl, fun _ => rfl⟩)
      | exact (Bool.noConfusion (show false = true from h))
  intro n
  induction n with
  | zero =>
    intro u d h
    cases d with
    | tup ds => cases u <;> exact (Bool.noConfusion (show false = true from h))
    | _ => exact flat 0 u _ (fun _ z => by cases z) h
  | succ n ih =>
    intro u d h
    cases d with
    | tup ds =>
      cases u with
      | ref a =>
        simp only [cstB] at h
        split at h
        · rename_i c od its k osl q
          simp only [Bool.and_eq_true, decide_eq_true_eq] at h
          obtain ⟨rfl, h2, h3, h4⟩ := h
          obtain ⟨vs, r, hv⟩ := cst_list ih its.toList ds h3 h4
          exact ⟨.ref a, rfl, fun w => ⟨a, vs, rfl, .inr fun H' => .inr ⟨_, its, k, q, rfl, rfl, h2, r⟩, hv w⟩⟩
        · cases h
      | _ => exact (Bool.noConfusion (show false = true from h))
    | _ => exact flat (n + 1) u _ (fun _ z => by cases z) h
def gcB (K : PySem.W.Frag) (x : Str) (d : D) : Bool := match PySem.W.nsIn K mainGlobals x with
  | some (some u) => cstB K 6 u d
  | _ => false
/-- a constant of the module -/
def GC (K : PySem.W.Frag) (mg : Str → Option Value) (x : Str) (d : D) : Prop := ∃ u v, mg x = some u ∧ RelV v u ∧ ∀ w, Rp K w d v
theorem gcB_ok {K : PySem.W.Frag} {h : Heap} {mg : Str → Option Value} (X : K.In h) (G : h.Ns mainGlobals mg) {x : Str} {d : D} (c : gcB K x d = true) : GC K mg x d := by
  unfold gcB at c
  split at c
  · rename_i u q
    obtain ⟨v, r, hv⟩ := cst_ok 6 u d c
    exact ⟨u, v, PySem.W.mg_of X G q, r, hv⟩
  · cases c
theorem pd_globC {X : Cx} {c : Wd} {x : Str} {pos : Pos} {d : D} (h : GC X.K X.mg x d) (hg : Gl X x := by rfl) (hdb : (x == ("__debug__" : Str)) = false := by decide) : PD c X (.Name x pos) (dC d) := by
  obtain ⟨u, v, hm, r, hv⟩ := h
  exact pd_glob hg hm r hv hdb
/-- a tuple of the module -/
theorem pd_globT {X : Cx} {c : Wd} {x : Str} {pos : Pos} {a : Addr} {xs : List V} {ds : List D} (hm : X.mg x = some (.ref a)) (hs : ∀ H, SqT X.K H a xs) (hd : ∀ w, RpL X.K w ds xs) (hg : Gl X x := by rfl) (hdb : (x == ("__debug__" : Str)) = false := by decide) : PD c X (.Name x pos) (dC (.tup ds)) :=
  pd_glob hg hm (v := .ref a) rfl (fun w => ⟨a, xs, rfl, .inr hs, hd w⟩) hdb
theorem strs_rp {K : PySem.W.Frag} {w : Wd} : ∀ zs : List Str, RpL K w (zs.map D.str) (zs.map V.str)
  | [] => rfl
  | z :: zs => ⟨.str z, zs.map V.str, rfl, rfl, strs_rp zs⟩
end DL
/-! The data layer, part p: dicts of the module with text keys. -/
namespace DL
open PySem L2 LamX
/-- at the name x stands a written dict with these keys and data -/
structure KTab (K : PySem.W.Frag) (w : World) (mg : Str → Option Value) (x : Str) (kvs : List (Str × D)) : Prop where
  ex : ∃ a es n, mg x = some (.ref a) ∧ KDict K w a es n ∧ (∀ z, kvs.lookup z = none → PySem.W.nsIn K a z = some none) ∧ ∀ z d, kvs.lookup z = some d → ∃ u v, PySem.W.nsIn K a z = some (some u) ∧ RelV v u ∧ ∀ w, Rp K w d v
def ktB (K : PySem.W.Frag) (a : Addr) (kvs : List (Str × D)) : Bool := kvs.all fun q => match PySem.W.nsIn K a q.1 with
  | some (some u) => cstB K 6 u q.2
  | _ => false
theorem find_none : ∀ {l : List DictEntry} {P : Params} {ks : List Str} {z : Str}, l.map He.keyOf = He.keysIn P ks → z ∉ ks → l.find? (·.key.isStr z) = none ∧ l.any (·.refKey) = false
  | [], _, _, _, _, _ => ⟨rfl, rfl⟩
  | e :: r, _, [], _, h, _ => by cases h
  | e :: r, P, k :: ks, z, h, hz => by
    have h1 : He.keyOf e :: r.map He.keyOf = some (k, PyData.keyHash P k) :: He.keysIn P ks := h
    injection h1 with h2 h3
    obtain ⟨i1, i2⟩ := find_none h3 (fun q => hz (List.mem_cons_of_mem _ q))
    unfold He.keyOf at h2
    split at h2
    · rename_i x t q
      obtain ⟨h5, h6⟩ := Prod.mk.inj (Option.some.inj h2)
      subst h5
      have hne : ¬ x = z := fun e => hz (by rw [← e]; exact List.mem_cons_self)
      have e1 : e.key.isStr z = false := by rw [q]; simp [Value.isStr, hne]
      have e2 : e.refKey = false := by unfold DictEntry.refKey; rw [q]
      exact ⟨by rw [List.find?_cons, e1]; exact i1, by rw [List.any_cons, e2, i2]; rfl⟩
    · cases h2
theorem lookup_none_mem {kvs : List (Str × D)} {z : Str} (h : kvs.lookup z = none) : z ∉ kvs.map (·.1) := by
  induction kvs with
  | nil => simp
  | cons p r ih =>
    rw [List.lookup] at h
    cases e : z == p.1 with
    | true => rw [e] at h; cases h
    | false =>
      rw [e] at h
      simp only [List.map_cons, List.mem_cons, not_or]
      exact ⟨by simpa using e, ih h⟩
theorem lookup_mem {kvs : List (Str × D)} {z : Str} {d : D} (h : kvs.lookup z = some d) : (z, d) ∈ kvs := by
  induction kvs with
  | nil => cases h
  | cons p r ih =>
    obtain ⟨k, e⟩ := p
    rw [List.lookup] at h
    cases q : z == k with
    | true => rw [q] at h; cases h; rw [beq_iff_eq.mp q]; exact List.mem_cons_self
    | false => rw [q] at h; exact List.mem_cons_of_mem _ (ih h)
theorem kt_ok {K : PySem.W.Frag} {w : World} {mg : Str → Option Value} {x : Str} {a : Addr} {kvs : List (Str × D)} (hm : mg x = some (.ref a)) (h : He.dicW K a = some (He.keysIn w.params (kvs.map (·.1)))) (c : ktB K a kvs = true) : KTab K w mg x kvs := by
  obtain ⟨es, n, kd⟩ := He.dicW_ok h
  refine ⟨a, es, n, hm, kd, fun z hz => ?_, fun z d hz => ?_⟩
  · have e : es.toList.map He.keyOf = He.keysIn w.params (kvs.map (·.1)) := by
      have h' : (match decide ("dict" = "dict") && ((#[] : Array (Option Value)).isEmpty && !(a == sysModules)) with
          | true => some (es.toList.map He.keyOf)
          | false => none) = some (He.keysIn w.params (kvs.map (·.1))) := by
        unfold He.dicW at h
        rw [kd.at_] at h
        exact h
      split at h'
      · exact Option.some.inj h'
      · cases h'
    obtain ⟨h1, h2⟩ := find_none e (lookup_none_mem hz)
    unfold PySem.W.nsIn
    rw [kd.at_]
    simp only [h1, h2]; rfl
  · have q := List.all_eq_true.mp c _ (lookup_mem hz)
    simp only at q
    split at q
    · rename_i u e
      obtain ⟨v, r, hv⟩ := cst_ok 6 u d q
      exact ⟨u, v, e, r, hv⟩
    · cases q
section
variable {X : Cx} {c : Wd} {e : Expr} {te : DE} {pos p : Pos} {x : Str} {kvs : List (Str × D)}
/-- e in T, e not in T -/
@[simp] def dInK (neg : Bool) (kvs : List (Str × D)) (te : DE) : DE := fun ρ M Q => te ρ M fun d M1 => match d with | .str z => Q (.bl ((kvs.lookup z).isSome != neg)) M1 | _ => False
@[simp] def dIxK (kvs : List (Str × D)) (te : DE) : DE := fun ρ M Q => te ρ M fun d M1 => match d with | .str z => (match kvs.lookup z with | some y => Q y M1 | none => False) | _ => False
theorem look_some {K : PySem.W.Frag} {a : Addr} {z : Str} (h0 : kvs.lookup z = none → PySem.W.nsIn K a z = some none) (h1 : ∀ d, kvs.lookup z = some d → ∃ u v, PySem.W.nsIn K a z = some (some u) ∧ RelV v u ∧ ∀ w, Rp K w d v) : ∃ r, PySem.W.nsIn K a z = some r ∧ r.isSome = (kvs.lookup z).isSome := by
  cases e : kvs.lookup z with
  | none => exact ⟨none, h0 e, rfl⟩
  | some d => obtain ⟨u, v, h, _⟩ := h1 d e; exact ⟨some u, h, rfl⟩
theorem inK_imp {a : Addr} (h0 : ∀ z, kvs.lookup z = none → PySem.W.nsIn X.K a z = some none) (h1 : ∀ z d, kvs.lookup z = some d → ∃ u v, PySem.W.nsIn X.K a z = some (some u) ∧ RelV v u ∧ ∀ w, Rp X.K w d v) {ρ : DEnv} {w : Wd} {Q' : DK} {σ : St} {H : Hp} {Q : VK} (hH : w.H = H) (a0 : At X.K c w ρ σ) (h : dInK false kvs te ρ w.M Q') (k : Wv X.K w Q' Q) :
    tOp (fun x y H Q => ∃ (z : Str) (r : Option Value), x = .str z ∧ y = .ref a ∧ PySem.W.nsIn X.K a z = some r ∧ Q (.bl (r.isSome)) H) (lift X.K c te) (tC (.ref a)) σ H Q := ⟨ρ, w, _, hH, a0, h, fun d w1 v q b r => by
  cases d with
  | str z =>
    obtain rfl : v = .str z := r
    obtain ⟨rr, e1, e2⟩ := look_some (h0 z) (h1 z)
    refine ⟨z, rr, rfl, rfl, e1, ?_⟩
    have e3 : (rr.isSome) = ((kvs.lookup z).isSome != false) := by rw [e2]; cases (kvs.lookup z).isSome <;> rfl
    rw [e3]
    exact k _ w1 _ q b rfl
  | _ => exact q.elim⟩
theorem pd_inK (T : KTab X.K X.w X.mg x kvs) (he : PD c X e te) (hg : Gl X x := by rfl) (hdb : (x == ("__debug__" : Str)) = false := by decide) : PD c X (.Compare e [.In] [.Name x p] pos) (dInK false kvs te) := by
  obtain ⟨a, es, n, hm, kd, h0, h1⟩ := T.ex
  exact PE_imp (pe_cmpR (op_in_kd kd) he (pe_glob (v := .ref a) hg hm rfl hdb) (by rfl)) fun σ H Q ⟨ρ, w, Q', hH, a0, h, k⟩ => inK_imp h0 h1 hH a0 h k
theorem pdt_inK (T : KTab X.K X.w X.mg x kvs) (he : PD c X e te) (hg : Gl X x := by rfl) (hdb : (x == ("__debug__" : Str)) = false := by decide) : PDT c X (.Compare e [.In] [.Name x p] pos) (dB (dInK false kvs te)) := by
  obtain ⟨a, es, n, hm, kd, h0, h1⟩ := T.ex
  exact PT_imp (pt_cmpR (op_in_kd kd) he (pe_glob (v := .ref a) hg hm rfl hdb) (by rfl)) fun σ H Q ⟨ρ, w, Q', hH, a0, h, k⟩ => inK_imp h0 h1 hH a0 h (Wv.isB k)
theorem ninK_imp {a : Addr} (h0 : ∀ z, kvs.lookup z = none → PySem.W.nsIn X.K a z = some none) (h1 : ∀ z d, kvs.lookup z = some d → ∃ u v, PySem.W.nsIn X.K a z = some (some u) ∧ RelV v u ∧ ∀ w, Rp X.K w d v) {ρ : DEnv} {w : Wd} {Q' : DK} {σ : St} {H : Hp} {Q : VK} (hH : w.H = H) (a0 : At X.K c w ρ σ) (h : dInK true kvs te ρ w.M Q') (k : Wv X.K w Q' Q) :
    tOp (fun x y H Q => ∃ (z : Str) (r : Option Value), x = .str z ∧ y = .ref a ∧ PySem.W.nsIn X.K a z = some r ∧ Q (.bl (!r.isSome)) H) (lift X.K c te) (tC (.ref a)) σ H Q := ⟨ρ, w, _, hH, a0, h, fun d w1 v q b r => by
  cases d with
  | str z =>
    obtain rfl : v = .str z := r
    obtain ⟨rr, e1, e2⟩ := look_some (h0 z) (h1 z)
    refine ⟨z, rr, rfl, rfl, e1, ?_⟩
    have e3 : (!rr.isSome) = ((kvs.lookup z).isSome != true) := by rw [e2]; cases (kvs.lookup z).isSome <;> rfl
    rw [e3]
    exact k _ w1 _ q b rfl
  | _ => exact q.elim⟩
theorem pd_ninK (T : KTab X.K X.w X.mg x kvs) (he : PD c X e te) (hg : Gl X x := by rfl) (hdb : (x == ("__debug__" : Str)) = false := by decide) : PD c X (.Compare e [.NotIn] [.Name x p] pos) (dInK true kvs te) := by
  obtain ⟨a, es, n, hm, kd, h0, h1⟩ := T.ex
  exact PE_imp (pe_cmpR (op_notIn_kd kd) he (pe_glob (v := .ref a) hg hm rfl hdb) (by rfl)) fun σ H Q ⟨ρ, w, Q', hH, a0, h, k⟩ => ninK_imp h0 h1 hH a0 h k
theorem pdt_ninK (T : KTab X.K X.w X.mg x kvs) (he : PD c X e te) (hg : Gl X x := by rfl) (hdb : (x == ("__debug__" : Str)) = false := by decide) : PDT c X (.Compare e [.NotIn] [.Name x p] pos) (dB (dInK true kvs te)) := by
  obtain ⟨a, es, n, hm, kd, h0, h1⟩ := T.ex
  exact PT_imp (pt_cmpR (op_notIn_kd kd) he (pe_glob (v := .ref a) hg hm rfl hdb) (by rfl)) fun σ H Q ⟨ρ, w, Q', hH, a0, h, k⟩ => ninK_imp h0 h1 hH a0 h (Wv.isB k)
theorem pd_ixK (T : KTab X.K X.w X.mg x kvs) (he : PD c X e te) (hs : PlainIx e := by exact fun _ _ => rfl) (hg : Gl X x := by rfl) (hdb : (x == ("__debug__" : Str)) = false := by decide) : PD c X (.Subscript (.Name x p) e pos) (dIxK kvs te) := by
  obtain ⟨a, es, n, hm, kd, h0, h1⟩ := T.ex
  refine PE_imp (pe_ix ix_kdict (pe_glob (v := .ref a) hg hm rfl hdb) he hs) fun σ H Q ⟨ρ, w, Q', hH, a0, h, k⟩ => ?_
  refine ⟨ρ, w, _, hH, a0, h, fun d w1 v q b r => ?_⟩
  cases d with
  | str z =>
    obtain rfl : v = .str z := r
    cases e : kvs.lookup z with
    | none => simp only [e] at q
    | some y =>
      simp only [e] at q
      obtain ⟨u, vy, e1, r1, hv⟩ := h1 z y e
      exact ⟨a, z, vy, rfl, rfl, ⟨es, n, u, kd.at_, kd.lit, e1, r1⟩, k y w1 vy q b (hv w1)⟩
  | _ => exact q.elim
end
end DL
/-! The data layer, part q: defs whose code object is told, an exception's __init__ by its body, the end. -/
namespace DL
open PySem L2 LamX L2H PyProof.Rows
theorem RoomH.units {k : Nat} {A : Around} (r : L2H.RoomH k A) : A.units + 64 < cLine := by have := r.un; omega
theorem roomH_suite {k : Nat} {A : Around} (r : Room k A) (a : Addr) : L2H.RoomH k (A.mark (some (.ref a))) := ⟨r.dp, r.un⟩
section
variable {P : Program} {w : World} {K : PySem.W.Frag} {mg : Str → Option Value} {base : Heap} {x qual : Str} {st : Stmt} {dvs : List V} {kws : List (Str × V)} {fd : FuncData} {cl : Str → Addr} {tb : List (Addr × Str)} {p : Str × Option Str}
/-- a def keeps its promise; its code object is told -/
theorem fnXc {N ps : List Str} {k : Nat} {s : DSp} {t : DXK → DS} (F : FunD K x qual (defArgs st) (defBody st) (defScope st) dvs kws (He.fAd K p) fd) (S : FnScope N ps (defScope st))
    (hb : ∀ (cdv : Value) (A : Around) (outer : List Env) (sh : Shared) (H : Hp) (E : XK) (c : Wd) (E' : DXK), cdv = .ref (He.codeOf K p) → Cc cl tb c → Room k (A.deeper (PyProof.Rows.envOfC qual (defScope st) sh.heap.objs.size (He.fAd K p) cdv)) → Tk c (cxOf (L2N.CX P w) P w K mg base N qual (defScope st) (He.fAd K p) cdv A outer sh H E) E' →
      PDSs c (cxOf (L2N.CX P w) P w K mg base N qual (defScope st) (He.fAd K p) cdv A outer sh H E) (defBody st) (t E'))
    (hs : ∀ ds M Q E', s ds M Q E' → ds.length = ps.length ∧ t E' { nx := fun _ M' => Q .non M', rt := Q } (startD N ds) M) : FnOk P w K mg base (L2N.CX P w) (k + 1) (He.fAd K p) fd ps (upX K cl tb s) := by
  obtain ⟨oc, od, dV, kV, doc, pm, an, cdv, ct, osl, rfl, lk, hcd, _, _⟩ := F.ex
  obtain ⟨cc, ecc⟩ := He.codeIn_ref hcd
  have ec := He.codeOf_eq lk (show (PySem.W.fnOf x qual (defArgs st) (defBody st) (defScope st) dV kV doc pm an cdv ct).code = .ref cc from ecc)
  refine fn_of lk hcd S (fun vs H Q E h => ?_) fun A outer sh H vs Q E hr h => ?_
  · obtain ⟨w, ds, Q', E', hH, hcc, ok, r, h, k, kx⟩ := h
    rw [r.length]; exact (hs ds _ Q' E' h).1
  · obtain ⟨w, ds, Q', E', hH, hcc, ok, r, h, k, kx⟩ := h
    refine ⟨liftS K w (t E'), hb cdv A outer sh H E w E' (by rw [ecc, ec]) hcc hr (tk_of kx), startD N ds, w, _, hH, ⟨Kp.refl w, RE.start r, ok, rfl, rfl⟩, (hs ds _ Q' E' h).2, ?_⟩
    exact { nx := fun ρ' w' σ' q b a => k .non w' .non q b rfl, rt := k, bk := fun _ _ _ q => q.elim, ct := fun _ _ _ q => q.elim }
end
/-- the law's end: what the walk of the law gives -/
theorem law_end {K : PySem.W.Frag} {cl : Str → Addr} {cs : List (Addr × Addr)} {q : Str} {s : DSp} (hs : ∀ (ns : List Int) (M : Mu), ns.length ≤ 63 → M = (fun _ => none) → s [.scr ns] M (fun d _ => d = .bl true) DX0) (H : Hp) (a : Addr) (ns : List Int) (hl : ns.length ≤ 63) (hT : ∀ p ∈ cs, H p.2 = some (.tbl #[])) (hS : SqL K H a (ns.map V.int)) :
    upX K cl (cs.map fun p => (p.2, q)) s [.ref a] H (fun v _ => v = .bl true) fun _ _ _ => False := by
  obtain ⟨w, hH, hcc, ok, r, hM⟩ := law_in (K := K) (cl := cl) (tb := cs.map fun p => (p.2, q)) hl hS (fun p hp => by
    obtain ⟨p0, h0, rfl⟩ := List.mem_map.mp hp
    exact TabS.nil (hT p0 h0))
  refine ⟨w, [.scr ns], _, DX0, hH, hcc, ok, r, hs ns w.M hl hM, fun d w' v q' b r' => ?_, fun _ _ _ _ _ z => z.elim⟩
  obtain rfl : d = .bl true := q'
  exact r'
end DL
/-! The data layer, part r: the end for several tables. -/
namespace DL
open PySem L2 LamX L2H PyProof.Rows
theorem law_end2 {K : PySem.W.Frag} {cl : Str → Addr} {tb : List (Addr × Str)} {s : DSp} (hs : ∀ (ns : List Int) (M : Mu), ns.length ≤ 63 → M = (fun _ => none) → s [.scr ns] M (fun d _ => d = .bl true) DX0) (H : Hp) (a : Addr) (ns : List Int) (hl : ns.length ≤ 63) (hT : ∀ p ∈ tb, H p.1 = some (.tbl #[])) (hS : SqL K H a (ns.map V.int)) :
    upX K cl tb s [.ref a] H (fun v _ => v = .bl true) fun _ _ _ => False := by
  obtain ⟨w, hH, hcc, ok, r, hM⟩ := law_in (K := K) (cl := cl) (tb := tb) hl hS (fun p hp => TabS.nil (hT p hp))
  refine ⟨w, [.scr ns], _, DX0, hH, hcc, ok, r, hs ns w.M hl hM, fun d w' v q' b r' => ?_, fun _ _ _ _ _ z => z.elim⟩
  obtain rfl : d = .bl true := q'
  exact r'
/-- no exception leaves the law -/
theorem cx_end (P : Program) (w : World) (H : Hp) (s : Shared) (e : Value) (s' : Shared) (h : L2N.CX P w [] H s (fun _ _ _ => False) e s') : False := by
  obtain ⟨_, _, _, _, _, _, _, _, _, _, _, _, z⟩ := h
  exact z
/-- the tables of the law's defs -/
theorem tb_one {K : PySem.W.Frag} {l : List ((Str × Option Str) × Str)} (hn : (l.map fun p => (He.cT K p.1).2).Nodup) {p : (Str × Option Str) × Str} (hp : p ∈ l) : (((He.cT K p.1).2, p.2) ∈ l.map fun p => ((He.cT K p.1).2, p.2)) ∧ ∀ q ∈ l.map (fun p => ((He.cT K p.1).2, p.2)), q.1 = (He.cT K p.1).2 → q.2 = p.2 := by
  refine ⟨List.mem_map.mpr ⟨p, hp, rfl⟩, fun q hq e => ?_⟩
  obtain ⟨p', hp', rfl⟩ := List.mem_map.mp hq
  have e' : (He.cT K p'.1).2 = (He.cT K p.1).2 := e
  have : p' = p := by
    induction l with
    | nil => cases hp
    | cons z l ih =>
      rw [List.map_cons, List.nodup_cons] at hn
      rcases List.mem_cons.mp hp with h1 | h1 <;> rcases List.mem_cons.mp hp' with h2 | h2
      · rw [h1, h2]
      · exact absurd (List.mem_map.mpr ⟨p', h2, by rw [e', h1]⟩) hn.1
      · exact absurd (List.mem_map.mpr ⟨p, h1, by rw [← e', h2]⟩) hn.1
      · exact ih hn.2 h1 h2 (List.mem_map.mpr ⟨p', h2, rfl⟩)
  rw [this]
theorem tab_at {fa : List He.Fa} {fn : List He.DefD} {ts : List He.Tab} {w : World} {K : PySem.W.Frag} (c : He.SaysT fa fn ts w K) (i : Nat) {t : He.Tab} (h : ts[i]? = some t) : He.dicW K (t.1 K) = some (He.keysIn w.params t.2) := by
  have e : ts.map (fun t => He.dicW K (t.1 K)) = ts.map fun t => some (He.keysIn w.params t.2) := congrArg (fun z : He.AlT => z.2) c
  have e2 : (ts.map fun t => He.dicW K (t.1 K))[i]? = (ts.map fun t => some (He.keysIn w.params t.2))[i]? := by rw [e]
  rw [List.getElem?_map, List.getElem?_map, h] at e2
  exact Option.some.inj e2
end DL
/-! The data layer, part s: tools for what is shown over data alone. -/
namespace DL
open PySem L2
section
variable {g : DG} {t : DS} {E : DEnds} {ρ : DEnv} {M : Mu} {Q : DK} {X : DXK} {b : Addr}
/-- a loop by what stands at each turn -/
theorem fori_inv {P : DEnv → Mu → Prop} : ∀ {ds : List D} {ρ : DEnv} {M : Mu}, (∀ x ∈ ds, ∀ ρ M, P ρ M → ∀ nx : DEnv → Mu → Prop, (∀ ρ' M', P ρ' M' → nx ρ' M') → g x ρ M fun ρ1 M1 => t { nx := nx, rt := E.rt, bk := E.nx, ct := nx } ρ1 M1) →
    P ρ M → (∀ ρ M, P ρ M → E.nx ρ M) → fori g t ds E ρ M
  | [], ρ, M, _, h0, hx => hx ρ M h0
  | x :: xs, ρ, M, h, h0, hx => h x List.mem_cons_self ρ M h0 _ fun ρ' M' p => fori_inv (fun y hy => h y (List.mem_cons_of_mem _ hy)) p hx
/-- a loop by what stands ahead of the items that are left -/
theorem fori_left {P : List D → DEnv → Mu → Prop} : ∀ {ds : List D} {ρ : DEnv} {M : Mu}, (∀ x r ρ M, P (x :: r) ρ M → ∀ nx : DEnv → Mu → Prop, (∀ ρ' M', P r ρ' M' → nx ρ' M') → g x ρ M fun ρ1 M1 => t { nx := nx, rt := E.rt, bk := E.nx, ct := nx } ρ1 M1) →
    P ds ρ M → (∀ ρ M, P [] ρ M → E.nx ρ M) → fori g t ds E ρ M
  | [], ρ, M, _, h0, hx => hx ρ M h0
  | x :: xs, ρ, M, h, h0, hx => h x xs ρ M h0 _ fun ρ' M' p => fori_left h p hx
theorem pick_l {r : Nat} {xs : List D} (hb : M b = some .bag) (h0 : 0 < xs.length) (h1 : xs.length ≤ 100000) (q : ∀ x ∈ xs, Q x M) : spPick [.ref b, .lst r xs] M Q X := .inl ⟨b, r, xs, rfl, hb, ⟨h0, h1⟩, q⟩
theorem draw_i {many : Int} (hb : M b = some .bag) (h0 : 0 < many) (h1 : many < 1073741824) (q : ∀ n : Int, 0 ≤ n → n < many → Q (.int n) M) : spDraw [.ref b, .int many] M Q X := ⟨b, many, rfl, hb, ⟨h0, h1⟩, q⟩
theorem same_t {n : Nat} {x y : D} (hx : gd n x = true) (hy : gd n y = true) (e : py x = py y) (q : Q (.bl true) M) : spSame n [x, y] M Q X := ⟨x, y, rfl, hx, hy, fun k hk => by rw [hk.mpr e]; exact q⟩
theorem bag_i {ns : List Int} (hl : ns.length ≤ 63) (q : ∀ b, M b = none → Q (.ref b) (setM M b .bag)) : spBag [.scr ns] M Q X := ⟨ns, rfl, hl, q⟩
end
end DL
/-! The data layer, part t: owned things are let go of; lists born owned, appended to. -/
namespace DL
open PySem L2
/-! ### what is owned becomes plain data -/
open Classical in
noncomputable def drop (M : Mu) (dead : Addr → Prop) : Mu := fun a => if dead a then none else M a
open Classical in
noncomputable def rs (M : Mu) (dead : Addr → Prop) : Nat → D → D
  | 0, d => d
  | n + 1, .ref a => if dead a then (match M a with
    | some (.lst xs) => .lst 0 (xs.map (rs M dead n))
    | some (.dK kvs) => .dct (kvs.map fun p => (keyD p.1, rs M dead n p.2))
    | some (.dT kvs) => .dct (kvs.map fun p => (tkeyD p.1, rs M dead n p.2))
    | some (.ins c fs) => .obj c (fs.map fun p => (p.1, rs M dead n p.2))
    | _ => .ref a) else .ref a
  | n + 1, .tup xs => .tup (xs.map (rs M dead n))
  | n + 1, .lst r xs => .lst r (xs.map (rs M dead n))
  | n + 1, .obj c fs => .obj c (fs.map fun p => (p.1, rs M dead n p.2))
  | _, d => d
section
variable {K : PySem.W.Frag} {w : Wd} {dead : Addr → Prop}
noncomputable abbrev Wd.dr (w : Wd) (dead : Addr → Prop) : Wd := { w with M := drop w.M dead }
theorem drop_some {M : Mu} {a : Addr} {m : MO} (h : drop M dead a = some m) : M a = some m := by
  unfold drop at h; split at h
  · cases h
  · exact h
theorem drop_none {M : Mu} {a : Addr} (h : M a = none) : drop M dead a = none := by
  unfold drop; split
  · rfl
  · exact h
theorem drop_dead {M : Mu} {a : Addr} (h : dead a) : drop M dead a = none := by unfold drop; rw [if_pos h]
theorem kp_drop : Kp w (w.dr dead) := Kp.of (fun a u hf e _ => ⟨⟨drop_none hf.m, hf.h, hf.l⟩, e⟩) (fun _ _ _ e => ⟨e, id⟩) rfl rfl rfl
theorem ok_drop (o : Ok K w) : Ok K (w.dr dead) where
  mo := fun a m e => (o.mo a m (drop_some e)).mono kp_drop rfl
  hid := o.hid
  ap := fun a m e => o.ap a m (drop_some e)
  len := o.len
  lap := fun r a u e => ⟨drop_none (o.lap r a u e).1, (o.lap r a u e).2⟩
  lfr := o.lfr
  hl := o.hl
  ll := o.ll
  tabs := o.tabs
theorem bh_drop (o : Ok K w) : Bh K w (w.dr dead) := ⟨kp_drop, ok_drop o, rfl, rfl⟩
theorem fr_dead (o : Ok K w) {a : Addr} {m : MO} (h : dead a) (e : w.M a = some m) : Fr (w.dr dead) a := ⟨drop_dead h, o.ap a m e, fun r => by
  cases q : w.ln r a with
  | none => rfl
  | some u => have := (o.lap r a u q).1; rw [e] at this; cases this⟩
theorem rpL_map {w' : Wd} {f : D → D} (h : ∀ d v, Rp K w d v → Rp K w' (f d) v) : ∀ {ds : List D} {vs : List V}, RpL K w ds vs → RpL K w' (ds.map f) vs
  | [], vs, r => r
  | d :: ds, vs, r => by
    obtain ⟨x, q, rfl, r1, r2⟩ := r
    exact ⟨x, q, rfl, h _ _ r1, rpL_map h r2⟩
theorem rpF_map {w' : Wd} {f : D → D} (h : ∀ d v, Rp K w d v → Rp K w' (f d) v) : ∀ {ds : List (Str × D)} {vs : List (Str × V)}, RpF K w ds vs → RpF K w' (ds.map fun p => (p.1, f p.2)) vs
  | [], vs, r => r
  | (q, d) :: ds, vs, r => by
    obtain ⟨x, q, rfl, r1, r2⟩ := r
    exact ⟨x, q, rfl, h _ _ r1, rpF_map h r2⟩
theorem rpK_map {w' : Wd} {f : D → D} (h : ∀ d v, Rp K w d v → Rp K w' (f d) v) : ∀ {ds : List (D × D)} {vs : List (D × V)}, RpK K w ds vs → RpK K w' (ds.map fun p => (p.1, f p.2)) vs
  | [], vs, r => r
  | (q, d) :: ds, vs, r => by
    obtain ⟨x, q, rfl, r1, r2⟩ := r
    exact ⟨x, q, rfl, h _ _ r1, rpK_map h r2⟩
theorem rs_rp (o : Ok K w) : ∀ (n : Nat) (d : D) (v : V), Rp K w d v → Rp K (w.dr dead) (rs w.M dead n d) v := by
  intro n
  induction n with
  | zero => intro d v r; exact r.mono kp_drop
  | succ n ih =>
    intro d v r
    cases d with
    | ref a =>
      obtain rfl : v = .ref a := r
      unfold rs
      split
      · rename_i hd
        cases e : w.M a with
        | none => rfl
        | some m =>
          have z := o.mo a m e
          have f := fr_dead o hd e
          cases m with
          | lst xs => obtain ⟨vs, h1, h2⟩ := z; exact ⟨a, vs, rfl, LsAt.free f h1, rpL_map ih h2⟩
          | bag => rfl
          | dK kvs =>
            obtain ⟨ks, h1, h2, h3⟩ := z
            refine ⟨a, rfl, f, .inl ⟨ks, ⟨_, h1, rfl⟩, ?_⟩⟩
            have := rpK_map ih h2
            simpa [List.map_map, Function.comp_def] using this
          | dT kvs =>
            obtain ⟨ks, h1, h2, h3⟩ := z
            refine ⟨a, rfl, f, .inr ⟨ks, ⟨_, h1, rfl⟩, ?_⟩⟩
            have := rpK_map ih h2
            simpa [List.map_map, Function.comp_def] using this
          | ins c fs => obtain ⟨dx, vs, h1, h2⟩ := z; exact ⟨a, dx, vs, rfl, f, h1, rpF_map ih h2⟩
      · rfl
    | tup xs => obtain ⟨a, vs, rfl, h1, h2⟩ := r; exact ⟨a, vs, rfl, h1.mono kp_drop, rpL_map ih h2⟩
    | lst t xs => obtain ⟨a, vs, rfl, h1, h2⟩ := r; exact ⟨a, vs, rfl, h1.mono kp_drop, rpL_map ih h2⟩
    | obj c fs =>
      obtain ⟨a, dx, vs, rfl, f, h1, h2⟩ := r
      exact ⟨a, dx, vs, rfl, (kp_drop.ins f h1).1, h1, rpF_map ih h2⟩
    | non => exact r.mono kp_drop
    | bl _ => exact r.mono kp_drop
    | int _ => exact r.mono kp_drop
    | str _ => exact r.mono kp_drop
    | ty _ => exact r.mono kp_drop
    | scr _ => exact r.mono kp_drop
    | dct _ => exact r.mono kp_drop
    | exc _ _ => exact r.mono kp_drop
    | cls _ => exact r.mono kp_drop
end
section
variable {M M0 : Mu} {dead : Addr → Prop} {n : Nat} {a : Addr}
theorem rs_lstO {xs : List D} (h : dead a) (e : M a = some (.lst xs)) : rs M dead (n + 1) (.ref a) = .lst 0 (xs.map (rs M dead n)) := by rw [rs, if_pos h, e]
theorem rs_dTO {kvs : List (List Key × D)} (h : dead a) (e : M a = some (.dT kvs)) : rs M dead (n + 1) (.ref a) = .dct (kvs.map fun p => (tkeyD p.1, rs M dead n p.2)) := by rw [rs, if_pos h, e]
theorem rs_dKO {kvs : List (Key × D)} (h : dead a) (e : M a = some (.dK kvs)) : rs M dead (n + 1) (.ref a) = .dct (kvs.map fun p => (keyD p.1, rs M dead n p.2)) := by rw [rs, if_pos h, e]
theorem rs_insO {c : Str} {fs : List (Str × D)} (h : dead a) (e : M a = some (.ins c fs)) : rs M dead (n + 1) (.ref a) = .obj c (fs.map fun p => (p.1, rs M dead n p.2)) := by rw [rs, if_pos h, e]
@[simp] theorem rs_tup {xs : List D} : rs M dead (n + 1) (.tup xs) = .tup (xs.map (rs M dead n)) := rfl
@[simp] theorem rs_lst {r : Nat} {xs : List D} : rs M dead (n + 1) (.lst r xs) = .lst r (xs.map (rs M dead n)) := rfl
@[simp] theorem rs_obj {c : Str} {fs : List (Str × D)} : rs M dead (n + 1) (.obj c fs) = .obj c (fs.map fun p => (p.1, rs M dead n p.2)) := rfl
@[simp] theorem rs_non : rs M dead n .non = .non := by cases n <;> rfl
@[simp] theorem rs_bl {b : Bool} : rs M dead n (.bl b) = .bl b := by cases n <;> rfl
@[simp] theorem rs_int {i : Int} : rs M dead n (.int i) = .int i := by cases n <;> rfl
@[simp] theorem rs_str {z : Str} : rs M dead n (.str z) = .str z := by cases n <;> rfl
@[simp] theorem rs_dct {kvs : List (D × D)} : rs M dead n (.dct kvs) = .dct kvs := by cases n <;> rfl
/-- no owned things within: d is as it is -/
def plainN : Nat → D → Bool
  | _, .non => true
  | _, .bl _ => true
  | _, .int _ => true
  | _, .str _ => true
  | _, .dct _ => true
  | n + 1, .lst _ xs => xs.all (plainN n)
  | n + 1, .tup xs => xs.all (plainN n)
  | n + 1, .obj _ fs => fs.all fun p => plainN n p.2
  | _, _ => false
theorem rs_plain : ∀ {n k : Nat} {d : D}, plainN k d = true → rs M dead n d = d
  | 0, _, d, _ => rfl
  | n + 1, k, d, h => by
    cases d with
    | non => simp
    | bl _ => simp
    | int _ => simp
    | str _ => simp
    | dct _ => simp
    | lst t xs =>
      cases k with
      | zero => cases h
      | succ k =>
        have h' : ∀ x ∈ xs, plainN k x = true := by simpa [plainN] using h
        rw [rs_lst]
        congr 1
        exact (List.map_congr_left fun x hx => rs_plain (h' x hx)).trans (List.map_id' _)
    | tup xs =>
      cases k with
      | zero => cases h
      | succ k =>
        have h' : ∀ x ∈ xs, plainN k x = true := by simpa [plainN] using h
        rw [rs_tup]
        congr 1
        exact (List.map_congr_left fun x hx => rs_plain (h' x hx)).trans (List.map_id' _)
    | obj c fs =>
      cases k with
      | zero => cases h
      | succ k =>
        have h' : ∀ p ∈ fs, plainN k p.2 = true := by simpa [plainN] using h
        rw [rs_obj]
        congr 1
        refine (List.map_congr_left (g := id) fun p hp => ?_).trans (List.map_id _)
        rw [rs_plain (h' p hp)]; rfl
    | ref _ => cases k <;> cases h
    | ty _ => cases k <;> cases h
    | scr _ => cases k <;> cases h
    | exc _ _ => cases k <;> cases h
    | cls _ => cases k <;> cases h
theorem rs_plains {xs : List D} {k : Nat} (h : xs.all (plainN k) = true) : xs.map (rs M dead n) = xs :=
  (List.map_congr_left fun x hx => rs_plain (List.all_eq_true.mp h x hx)).trans (List.map_id' _)
/-- all that is new goes -/
abbrev newIn (M0 : Mu) : Addr → Prop := fun a => M0 a = none
theorem drop_new (h : ∀ a m, M0 a = some m → M a = some m) : drop M (newIn M0) = M0 := by
  funext a
  unfold drop
  split
  · rename_i e; exact e.symm
  · rename_i e
    cases q : M0 a with
    | none => exact absurd q e
    | some m => exact h a m q
/-- the same store, and more -/
def Ex (M0 M : Mu) : Prop := ∀ a m, M0 a = some m → M a = some m
theorem Ex.refl (M : Mu) : Ex M M := fun _ _ h => h
theorem Ex.trans {M1 M2 : Mu} (h : Ex M0 M1) (k : Ex M1 M2) : Ex M0 M2 := fun a m e => k a m (h a m e)
theorem Ex.set {m : MO} (h : Ex M0 M) (e : M0 a = none) : Ex M0 (setM M a m) := fun b n q => by
  rw [setM_ne (fun z => by subst z; rw [e] at q; cases q)]; exact h b n q
end
def fzK (Q : DK) : DK := fun d M => ∃ dead, Q (rs M dead 9 d) (drop M dead)
@[simp] def dFz (te : DE) : DE := fun ρ M Q => te ρ M (fzK Q)
theorem fz_new {Q : DK} {d : D} {M M0 : Mu} (h : Ex M0 M) (q : Q (rs M (newIn M0) 9 d) M0) : fzK Q d M := ⟨newIn M0, by rw [drop_new h]; exact q⟩
section
variable {X : Cx} {c : Wd} {e o : Expr} {es : List Expr} {te ta tb : DE} {tl : DA} {pos p apos : Pos} {ti : DI} {g : DG} {tt : DT}
theorem pd_fz (h : PD c X e te) : PD c X e (dFz te) := PE_imp h fun σ H Q ⟨ρ, w, Q', hH, a, h, k⟩ => ⟨ρ, w, _, hH, a, h, fun d w1 v ⟨dead, q⟩ b r => k _ (w1.dr dead) v q (b.trans (bh_drop b.ok)) (rs_rp b.ok 9 d v r)⟩
/-! ### lists born owned -/
def ownK (Q : DK) : DK := fun d M => match d with | .lst 0 xs => ∀ a, M a = none → Q (.ref a) (setM M a (.lst xs)) | _ => False
/-- a comprehension's list that stays owned -/
@[simp] def dLcO (ti : DI) (g : DG) (tt : DT) (te : DE) (vs : List Nat) : DE := fun ρ M Q => ti ρ M fun ds M1 => compi g tt te (wipeD ρ vs) ds [] M1 (ownK Q)
theorem comp_impG {K : PySem.W.Frag} {tt : DT} {us vs : List Nat} (hsub : ∀ i ∈ us, i ∈ vs) {σ : St} {Q : VK} {Q' : DK} {ρ : DEnv} {w : Wd} (a : At K c w ρ σ) (h : ti ρ w.M fun ds M1 => compi g tt te (wipeD ρ vs) ds [] M1 Q')
    (kend : ∀ (w1 w' : Wd) (L : Addr) (acc : List D) (xs : List V), Bh K w w1 → w1.H L = none → Fr w1 L → w'.hd = upd w1.hd L (.lst xs) → w'.ln = w1.ln → Kp w1 w' → Ok K w' → RpL K w' acc xs → Q' (.lst 0 acc) w'.M → Q (.ref L) w'.H) :
    tLc (liftI K c ti) (liftGB K c us g) (liftTB K c tt) (liftB K c te) vs σ w.H Q := by
  refine ⟨ρ, w, _, rfl, a, h, fun ds w1 J q b1 it L hL => ?_⟩
  have a1 := a.next b1
  have fL := b1.ok.fresh hL
  refine ⟨fun i m H' => m = ds.length - i ∧ i ≤ ds.length ∧ ∃ w' acc xs, w'.H = H' ∧ w'.hd = upd w1.hd L (.lst xs) ∧ w'.ln = w1.ln ∧ Kp w1 w' ∧ Ok K w' ∧ RpL K w' acc xs ∧ compi g tt te (wipeD ρ vs) (ds.drop i) acc w'.M Q',
    ⟨ds.length, by simp, Nat.zero_le _, mk w1 L [], [], [], rfl, rfl, rfl, kp_mk b1.ok (.inl hL), ok_mk b1.ok (.inl hL), rfl, by rw [List.drop_zero]; exact q⟩, ?_⟩
  rintro i m H' ⟨rfl, hi, w', acc, xs, rfl, hhd, hln, kp', ok', racc, hf⟩
  have hdL : w'.hd L = some (.lst xs) := by rw [hhd]; exact upd_same
  obtain ⟨hgo, hst⟩ := it w' kp' ok'
  by_cases hlt : i < ds.length
  · right
    have e0 : ds.drop i = ds[i] :: ds.drop (i + 1) := List.drop_eq_getElem_cons hlt
    have e1 : ds[i]? = some ds[i] := List.getElem?_eq_getElem hlt
    rw [e0] at hf
    obtain ⟨g1, g2⟩ := hgo i _ e1
    refine ⟨g1, fun H2 => ∃ w2 acc2 xs2, w2.H = H2 ∧ w2.hd = upd w1.hd L (.lst xs2) ∧ w2.ln = w1.ln ∧ Kp w1 w2 ∧ Ok K w2 ∧ RpL K w2 acc2 xs2 ∧ compi g tt te (wipeD ρ vs) (ds.drop (i + 1)) acc2 w2.M Q', fun H2 ⟨w2, acc2, xs2, h1, h2, h3, h4, h5, h6, h7⟩ => ⟨ds.length - (i + 1), by omega, rfl, hlt, w2, acc2, xs2, h1, h2, h3, h4, h5, h6, h7⟩, fun x H'' y => ?_⟩
    obtain ⟨b2, r2⟩ := g2 x H'' y
    have at2 : At K (w'.at H'') (w'.at H'') (wipeD ρ vs) (wipe σ vs) := ⟨Kp.refl _, ((a1.re.wipe vs).mono kp').mono b2.kp, b2.ok, rfl, rfl⟩
    have cl2 : SC c (w'.at H'') := ((a1.kp.trans kp').trans b2.kp).sc
    refine ⟨w'.at H'', cl2, ds[i], wipeD ρ vs, w'.at H'', _, rfl, at2, r2, hf, fun ρ3 w3 σ3 q3 b3 a3 g3 => ?_⟩
    have hag : Ag vs (wipe σ vs) σ3 := ⟨g3.1, fun j hj => g3.2 j (fun z => hj (hsub j z))⟩
    refine ⟨by rw [wipe_ag hag, wipe_ag wipe_wipe], w3, cl2.trans b3.kp.sc, ρ3, w3, _, rfl, a3.self, q3, fun b w4 q4 b4 => ?_⟩
    have b24 : Bh K w' w4 := (b2.trans b3).trans b4
    cases b with
    | false =>
      refine iteF ⟨w4, acc, xs, rfl, b24.hd.trans hhd, b24.ln.trans hln, kp'.trans b24.kp, b24.ok, racc.mono b24.kp, ?_⟩
      exact q4
    | true =>
      refine iteT ⟨w4, (cl2.trans b3.kp.sc).trans b4.kp.sc, ρ3, w4, _, rfl, (a3.next b4).self, q4, fun d w5 v q5 b5 r5 => ?_⟩
      have b25 : Bh K w' w5 := b24.trans b5
      have hd5 : w5.hd L = some (.lst xs) := by rw [b25.hd]; exact hdL
      have r5' := racc.mono b25.kp
      refine ⟨xs, b25.ok.hid L _ hd5, szlt (by rw [racc.length]; exact q5.1), mk w5 L (xs ++ [v]), acc ++ [d], xs ++ [v], rfl, ?_, b25.ln.trans hln, (kp'.trans b25.kp).trans (kp_mk b25.ok (.inr ⟨_, hd5⟩)), ok_mk b25.ok (.inr ⟨_, hd5⟩), (r5'.append (RpL.one r5)).mono (kp_mk b25.ok (.inr ⟨_, hd5⟩)), q5.2⟩
      show upd w5.hd L _ = _
      rw [b25.hd, hhd, upd_upd]
  · left
    have e : i = ds.length := by omega
    subst e
    rw [List.drop_length] at hf
    refine ⟨hst, ?_⟩
    exact kend w1 w' L acc xs b1 hL fL hhd hln kp' ok' racc hf
/-- the list is shown, and owned -/
theorem shownO {K : PySem.W.Frag} {w1 w' : Wd} {L : Addr} {xs : List V} {acc : List D} (fL : Fr w1 L) (hhd : w'.hd = upd w1.hd L (.lst xs)) (ok' : Ok K w') (r : RpL K w' acc xs) : Kp w' { w' with hd := w1.hd, M := setM w'.M L (.lst acc) } ∧ Ok K { w' with hd := w1.hd, M := setM w'.M L (.lst acc) } := by
  have hdL : w'.hd L = some (.lst xs) := by rw [hhd]; exact upd_same
  have hl : ∀ r, w'.ln r L = none := fun r => by
    cases e : w'.ln r L with
    | none => rfl
    | some m => have := (ok'.lap r L m e).2; rw [hdL] at this; cases this
  have nh : ∀ x, w'.hd x = none → w1.hd x = none ∧ x ≠ L := fun x z => by
    rw [hhd] at z
    have hne : x ≠ L := fun q => by subst q; rw [upd_same] at z; cases z
    rw [upd_ne hne] at z; exact ⟨z, hne⟩
  have hd6 : ∀ x u, w1.hd x = some u → w'.hd x = some u := fun x u e => by
    have hne : x ≠ L := fun q => by subst q; rw [fL.h] at e; cases e
    rw [hhd, upd_ne hne]; exact e
  have kp6 : Kp w' { w' with hd := w1.hd, M := setM w'.M L (.lst acc) } := Kp.of (fun x u hf e _ => ⟨⟨by show setM w'.M L _ x = none; rw [setM_ne (nh x hf.h).2]; exact hf.m, (nh x hf.h).1, hf.l⟩, e⟩) (fun _ _ _ e => ⟨e, id⟩) rfl rfl rfl
  refine ⟨kp6, ⟨fun x m e => ?_, fun x u e => ok'.hid x u (hd6 x u e), fun x m e => ?_, ok'.len, fun r x u e => ⟨?_, (nh x (ok'.lap r x u e).2).1⟩, ok'.lfr, fun x u e => ok'.hl x u (hd6 x u e), ok'.ll, ok'.tabs⟩⟩
  · by_cases hx : x = L
    · subst hx
      have e' : (MO.lst acc) = m := Option.some.inj ((setM_same (M := w'.M) (a := x) (m := .lst acc)).symm.trans e)
      subst e'
      exact ⟨xs, ok'.hid x _ hdL, r.mono kp6⟩
    · have e' : w'.M x = some m := (setM_ne hx).symm.trans e
      exact (ok'.mo x m e').mono kp6 rfl
  · by_cases hx : x = L
    · subst hx; exact fL.h
    · have e' : w'.M x = some m := (setM_ne hx).symm.trans e
      exact (nh x (ok'.ap x m e')).1
  · show setM w'.M L _ x = none
    rw [setM_ne (fun z => by subst z; rw [hl r] at e; cases e)]; exact (ok'.lap r x u e).1
theorem blkG {scope : Scope} {us : List Nat} {tg : Expr} (hg : ∀ (c' : Wd), SC c c' → ∀ (s : Shared) (H : Hp) (C : Addr) (cl : List (Str × Addr)) (fp : List Addr), PDG c' (X.blk s H scope (compEnvC scope cl C X.env) fp) us tg g) :
    ∀ (s : Shared) (H : Hp) (C : Addr) (cl : List (Str × Addr)) (fp : List Addr), PG (X.blk s H scope (compEnvC scope cl C X.env) fp) tg (liftGB X.K c us g) := fun s H C cl fp => ⟨fun pins sh σ H' v u Q I r ⟨c', e, q⟩ => (hg c' e s H C cl fp).run pins sh σ H' v u Q I r q⟩
theorem blkT {scope : Scope} {ifs : List Expr} (ht : ∀ (c' : Wd), SC c c' → ∀ (s : Shared) (H : Hp) (C : Addr) (cl : List (Str × Addr)) (fp : List Addr), PDTs c' (X.blk s H scope (compEnvC scope cl C X.env) fp) ifs tt) :
    ∀ (s : Shared) (H : Hp) (C : Addr) (cl : List (Str × Addr)) (fp : List Addr), PTs (X.blk s H scope (compEnvC scope cl C X.env) fp) ifs (liftTB X.K c tt) := fun s H C cl fp => ⟨fun pins sh σ H' Q I ⟨c', e, q⟩ => (ht c' e s H C cl fp).run pins sh σ H' Q I q⟩
theorem blkE {scope : Scope} {elt : Expr} (he : ∀ (c' : Wd), SC c c' → ∀ (s : Shared) (H : Hp) (C : Addr) (cl : List (Str × Addr)) (fp : List Addr), PD c' (X.blk s H scope (compEnvC scope cl C X.env) fp) elt te) :
    ∀ (s : Shared) (H : Hp) (C : Addr) (cl : List (Str × Addr)) (fp : List Addr), PE (X.blk s H scope (compEnvC scope cl C X.env) fp) elt (liftB X.K c te) := fun s H C cl fp => ⟨fun pins sh σ H' Q I ⟨c', e, q⟩ => (he c' e s H C cl fp).run pins sh σ H' Q I q⟩
theorem pd_lcO {elt tg iter : Expr} {ifs : List Expr} {scope : Scope} {own : List (Str × Nat)} {us : List Nat} {tt : DT} (hc : X.calm = true) (hN : X.N.Nodup) (hi : PDI c X tg iter ti) (ok : BlkOk X.N X.env.scope scope own)
    (hg : ∀ (c' : Wd), SC c c' → ∀ (s : Shared) (H : Hp) (C : Addr) (cl : List (Str × Addr)) (fp : List Addr), PDG c' (X.blk s H scope (compEnvC scope cl C X.env) fp) us tg g) (ht : ∀ (c' : Wd), SC c c' → ∀ (s : Shared) (H : Hp) (C : Addr) (cl : List (Str × Addr)) (fp : List Addr), PDTs c' (X.blk s H scope (compEnvC scope cl C X.env) fp) ifs tt)
    (he : ∀ (c' : Wd), SC c c' → ∀ (s : Shared) (H : Hp) (C : Addr) (cl : List (Str × Addr)) (fp : List Addr), PD c' (X.blk s H scope (compEnvC scope cl C X.env) fp) elt te) (hsub : ∀ i ∈ us, i ∈ own.map (·.2) := by decide) (hs : ∀ x, foldedSetIterable iter X.env x = pure x := by intro _; rfl) :
    PD c X (.ListComp elt [⟨tg, iter, ifs, 0⟩] scope pos) (dLcO ti g tt te (own.map (·.2))) := PE_imp (pe_lc hc hN hi ok (blkG hg) (blkT ht) (blkE he) hs) fun σ H Q ⟨ρ, w, Q', hH, a, h, k⟩ => by
  subst hH
  refine comp_impG hsub a h fun w1 w' L acc xs b1 hL fL hhd hln kp' ok' racc hf => ?_
  obtain ⟨kp6, ok6⟩ := shownO fL hhd ok' racc
  have hM : w'.M L = none := by
    cases e : w'.M L with
    | none => rfl
    | some m => have := ok'.ap L m e; rw [hhd, upd_same] at this; cases this
  exact k (.ref L) { w' with hd := w1.hd, M := setM w'.M L (.lst acc) } (.ref L) (hf L hM) ⟨(b1.kp.trans kp').trans kp6, ok6, b1.hd, hln.trans b1.ln⟩ rfl
theorem pds_setLcO {i : Nat} {y : Str} {py spos : Pos} {elt tg iter : Expr} {ifs : List Expr} {scope : Scope} {own : List (Str × Nat)} {us : List Nat} {tt : DT} (hc : X.calm = true) (hN : X.N.Nodup)
    (hi : PDI c X tg iter ti) (ok : BlkOk X.N X.env.scope scope own)
    (hg : ∀ (c' : Wd), SC c c' → ∀ (s : Shared) (H : Hp) (C : Addr) (cl : List (Str × Addr)) (fp : List Addr), PDG c' (X.blk s H scope (compEnvC scope cl C X.env) fp) us tg g) (ht : ∀ (c' : Wd), SC c c' → ∀ (s : Shared) (H : Hp) (C : Addr) (cl : List (Str × Addr)) (fp : List Addr), PDTs c' (X.blk s H scope (compEnvC scope cl C X.env) fp) ifs tt)
    (he : ∀ (c' : Wd), SC c c' → ∀ (s : Shared) (H : Hp) (C : Addr) (cl : List (Str × Addr)) (fp : List Addr), PD c' (X.blk s H scope (compEnvC scope cl C X.env) fp) elt te)
    (hsw : swapsWith (.ListComp elt [⟨tg, iter, ifs, 0⟩] scope pos) (some (.Name y py)) spos.line X.env = pure true) (hy : X.N[i]? = some y := by rfl) (hyl : X.env.scope.names.lookup y = some .local := by rfl) (hsub : ∀ i ∈ us, i ∈ own.map (·.2) := by decide) (hs : ∀ x, foldedSetIterable iter X.env x = pure x := by intro _; rfl) :
    PDS c X (.Assign [.Name y py] (.ListComp elt [⟨tg, iter, ifs, 0⟩] scope pos) spos) (dAsg (dLcO ti g tt te (own.map (·.2))) (gNm i)) := PS_imp (ps_setLc hc hN hy hyl hsw hi ok (blkG hg) (blkT ht) (blkE he) hs) fun D σ H ⟨ρ, w, D', hH, a, h, k⟩ => by
  subst hH
  refine comp_impG hsub a h fun w1 w' L acc xs b1 hL fL hhd hln kp' ok' racc hf => ?_
  obtain ⟨kp6, ok6⟩ := shownO fL hhd ok' racc
  have hM : w'.M L = none := by
    cases e : w'.M L with
    | none => rfl
    | some m => have := ok'.ap L m e; rw [hhd, upd_same] at this; cases this
  have b6 : Bh X.K w { w' with hd := w1.hd, M := setM w'.M L (.lst acc) } := ⟨(b1.kp.trans kp').trans kp6, ok6, b1.hd, hln.trans b1.ln⟩
  exact k.nx _ { w' with hd := w1.hd, M := setM w'.M L (.lst acc) } _ (hf L hM) b6 ((a.next b6).set rfl)
end
end DL
/-! The data layer, part u: owned lists appended to, born of list(..); what is owned is lent to a call. -/
namespace DL
open PySem L2
section
variable {X : Cx} {c : Wd} {e o : Expr} {es : List Expr} {te ta tb : DE} {tl : DA} {pos p apos : Pos}
@[simp] def dApp (to te : DE) : DE := fun ρ M Q => to ρ M fun x M1 => match x with
  | .ref a => (match M1 a with
    | some (.lst _) => te ρ M1 fun d M2 => (match M2 a with | some (.lst xs) => xs.length < 100000 ∧ Q .non (setM M2 a (.lst (xs ++ [d]))) | _ => False)
    | _ => False)
  | _ => False
theorem pd_append (ho : PD c X o ta) (he : PD c X e te) (hbase : attributeBase o "append" X.env (eval o X.env) = eval o X.env := by rfl)
    (hfew : ((backTo pos (starEach [e] X.env)).all (fun x => !x.1) && (backToKw pos (keywordEach [] X.env)).all (fun x => x.1.isSome)
      && decide (([e] : List Expr).length + ([] : List Keyword).length + (if ([] : List Keyword).isEmpty then 0 else 1) < 30)) = true := by rfl)
    (hline : (apos.endLine == pos.line) = true := by rfl) (hs : starEach [e] X.env = (false, eval e X.env) :: starEach [] X.env := by rfl) (hplain : (backTo pos (starEach [] X.env)).any (·.1) = false := by rfl) :
    PD c X (.Call (.Attribute o "append" apos) [e] [] pos) (dApp ta te) :=
  PE_imp (pe_bm PySem.F.plainAttrs_list PySem.F.slot_list_append PySem.F.type_list_append mt_append ho (pda_cons (tl := dNil) he pda_nil (hs := hs)) hbase hfew hline hs hplain) fun σ H Q ⟨ρ, w, Q', hH, a, h, k⟩ => ⟨ρ, w, _, hH, a, h, fun d w1 v q b1 r => by
    cases d with
    | ref l =>
      obtain rfl : v = .ref l := r
      cases em : w1.M l with
      | none => simp only [em] at q
      | some m =>
        cases m with
        | lst ys =>
          simp only [em] at q
          obtain ⟨xs, hx, s1⟩ := (show ∃ xs, w1.H l = some (.lst xs) ∧ RpL X.K w1 ys xs from b1.ok.mo l _ em)
          refine ⟨.inl ⟨rfl, xs, SqL.of hx⟩, ρ, w1, (fun ds M2 => match ds with | [d] => (match M2 l with | some (.lst xs) => xs.length < 100000 ∧ Q' .non (setM M2 l (.lst (xs ++ [d]))) | _ => False) | _ => False), rfl, a.next b1, q, fun ds w2 vs q2 b2 r2 => ?_⟩
          match ds, r2, q2 with
          | [d], r2, q2 =>
            obtain ⟨u, rfl, r3⟩ := one_of r2
            cases em2 : w2.M l with
            | none => simp only [em2] at q2
            | some m2 =>
              cases m2 with
              | lst zs =>
                simp only [em2] at q2
                obtain ⟨xs2, hx2, s2⟩ := (show ∃ xs, w2.H l = some (.lst xs) ∧ RpL X.K w2 zs xs from b2.ok.mo l _ em2)
                refine ⟨l, xs2, u, rfl, rfl, hx2, szlt (by rw [s2.length]; exact q2.1), ?_⟩
                exact k .non { w2 with M := setM w2.M l (.lst (zs ++ [d])), H := upd w2.H l (.lst (xs2 ++ [u])) } .non q2.2 ((b1.trans b2).trans (Bh.own b2.ok em2 fun w' e k' => ⟨_, e, (s2.append (RpL.one r3)).mono k'⟩)) rfl
              | _ => simp only [em2] at q2
        | _ => simp only [em] at q
    | _ => exact q.elim⟩
/-- o.extend(e), e a list that is not owned -/
@[simp] def dExt (to te : DE) : DE := fun ρ M Q => to ρ M fun x M1 => match x with
  | .ref a => (match M1 a with
    | some (.lst _) => te ρ M1 fun d M2 => (match d with | .lst _ zs => (match M2 a with | some (.lst xs) => xs.length + zs.length ≤ 100000 ∧ Q .non (setM M2 a (.lst (xs ++ zs))) | _ => False) | _ => False)
    | _ => False)
  | _ => False
theorem pd_extend (ho : PD c X o ta) (he : PD c X e te) (hbase : attributeBase o "extend" X.env (eval o X.env) = eval o X.env := by rfl)
    (hfew : ((backTo pos (starEach [e] X.env)).all (fun x => !x.1) && (backToKw pos (keywordEach [] X.env)).all (fun x => x.1.isSome)
      && decide (([e] : List Expr).length + ([] : List Keyword).length + (if ([] : List Keyword).isEmpty then 0 else 1) < 30)) = true := by rfl)
    (hline : (apos.endLine == pos.line) = true := by rfl) (hs : starEach [e] X.env = (false, eval e X.env) :: starEach [] X.env := by rfl) (hplain : (backTo pos (starEach [] X.env)).any (·.1) = false := by rfl) :
    PD c X (.Call (.Attribute o "extend" apos) [e] [] pos) (dExt ta te) :=
  PE_imp (pe_bm PySem.F.plainAttrs_list PySem.F.slot_list_extend PySem.F.type_list_extend mt_extend ho (pda_cons (tl := dNil) he pda_nil (hs := hs)) hbase hfew hline hs hplain) fun σ H Q ⟨ρ, w, Q', hH, a, h, k⟩ => ⟨ρ, w, _, hH, a, h, fun d w1 v q b1 r => by
    cases d with
    | ref l =>
      obtain rfl : v = .ref l := r
      cases em : w1.M l with
      | none => simp only [em] at q
      | some m =>
        cases m with
        | lst ys =>
          simp only [em] at q
          obtain ⟨xs, hx, s1⟩ := (show ∃ xs, w1.H l = some (.lst xs) ∧ RpL X.K w1 ys xs from b1.ok.mo l _ em)
          refine ⟨.inl ⟨rfl, xs, SqL.of hx⟩, ρ, w1, (fun ds M2 => match ds with | [d] => (match d with | .lst _ zs => (match M2 l with | some (.lst xs) => xs.length + zs.length ≤ 100000 ∧ Q' .non (setM M2 l (.lst (xs ++ zs))) | _ => False) | _ => False) | _ => False), rfl, a.next b1, q, fun ds w2 vs q2 b2 r2 => ?_⟩
          match ds, r2, q2 with
          | [d], r2, q2 =>
            obtain ⟨u, rfl, r3⟩ := one_of r2
            cases d with
            | lst t zz =>
              obtain ⟨pp, us, rfl, l3, s3⟩ := r3
              cases em2 : w2.M l with
              | none => simp only [em2] at q2
              | some m2 =>
                cases m2 with
                | lst zs =>
                  simp only [em2] at q2
                  obtain ⟨xs2, hx2, s2⟩ := (show ∃ xs, w2.H l = some (.lst xs) ∧ RpL X.K w2 zs xs from b2.ok.mo l _ em2)
                  refine ⟨l, pp, xs2, us, rfl, rfl, hx2, l3.1, sz (by rw [s2.length, s3.length]; exact q2.1), ?_⟩
                  exact k .non { w2 with M := setM w2.M l (.lst (zs ++ zz)), H := upd w2.H l (.lst (xs2 ++ us)) } .non q2.2 ((b1.trans b2).trans (Bh.own b2.ok em2 fun w' e k' => ⟨_, e, (s2.append s3).mono k'⟩)) rfl
                | _ => simp only [em2] at q2
            | _ => exact q2.elim
        | _ => simp only [em] at q
    | _ => exact q.elim⟩
/-- list(e), owned -/
@[simp] def lstOD : DC := fun ds M Q => match ds with
  | [.lst _ xs] => ∀ a, M a = none → Q (.ref a) (setM M a (.lst xs))
  | [.tup xs] => ∀ a, M a = none → Q (.ref a) (setM M a (.lst xs))
  | _ => False
theorem lstO_D : CallD X (.type "list") lstOD := by
  intro pins s σ H vs us Q I rs ⟨w, ds, Q', hH, ok, r, h, k⟩
  subst hH
  have fin : ∀ (xs : List D) (ys : List V) (q : Addr), RpL X.K w xs ys → w.H q = none → (∀ a, w.M a = none → Q' (.ref a) (setM w.M a (.lst xs))) → Q (.ref q) (upd w.H q (.lst ys)) := fun xs ys q s1 hq h =>
    k (.ref q) { w with M := setM w.M q (.lst xs), H := upd w.H q (.lst ys) } (.ref q) (h q (ok.fresh hq).m) (Bh.newOwn ok hq fun w' e k' => ⟨ys, e, s1.mono k'⟩) rfl
  match ds, r, h with
  | [d], r, h =>
    obtain ⟨v, rfl, r1⟩ := one_of r
    cases d with
    | lst t xs => obtain ⟨a, ys, rfl, l, s1⟩ := r1; exact call_list_of pins s σ _ _ us Q I rs ⟨a, ys, rfl, .inl l.sq, fun q hq => fin xs ys q s1 hq h⟩
    | tup xs => obtain ⟨a, ys, rfl, l, s1⟩ := r1; exact call_list_of pins s σ _ _ us Q I rs ⟨a, ys, rfl, .inr l.sq, fun q hq => fin xs ys q s1 hq h⟩
    | _ => exact False.elim h
  | [], r, h => exact False.elim h
  | d :: _ :: _, r, h => cases d <;> exact False.elim h
end
end DL
/-! The data layer, part v: owned lists are lent to a call, as lists of a region of their own. -/
namespace DL
open PySem L2
mutual
def noR (r : Nat) : D → Bool
  | .lst s xs => decide (s ≠ r) && noRL r xs
  | .tup xs => noRL r xs
  | .dct kvs => noRK r kvs
  | .obj _ fs => noRF r fs
  | .exc _ fs => noRF r fs
  | _ => true
def noRL (r : Nat) : List D → Bool
  | [] => true
  | x :: xs => noR r x && noRL r xs
def noRK (r : Nat) : List (D × D) → Bool
  | [] => true
  | (_, x) :: xs => noR r x && noRK r xs
def noRF (r : Nat) : List (Str × D) → Bool
  | [] => true
  | (_, x) :: xs => noR r x && noRF r xs
end
def noRM (r : Nat) : MO → Bool
  | .lst ds => noRL r ds
  | .dK kvs => noRK r (kvs.map fun p => (keyD p.1, p.2))
  | .dT kvs => noRK r (kvs.map fun p => (tkeyD p.1, p.2))
  | .ins _ fs => noRF r fs
  | _ => true
theorem noRL_all {r : Nat} : ∀ xs : List D, noRL r xs = xs.all (noR r)
  | [] => rfl
  | x :: xs => by rw [noRL, noRL_all xs]; rfl
section
variable {K : PySem.W.Frag} {w w' : Wd} {r : Nat}
/-! the lists of region r are not -/
mutual
theorem Rp.noR (hr : r ≠ 0) (hl : ∀ a, w.ln r a = none) : ∀ {d : D} {v : V}, Rp K w d v → noR r d = true
  | .non, _, _ => rfl
  | .bl _, _, _ => rfl
  | .int _, _, _ => rfl
  | .str _, _, _ => rfl
  | .ref _, _, _ => rfl
  | .ty _, _, _ => rfl
  | .cls _, _, _ => rfl
  | .scr ns, v, _ => rfl
  | .lst s ds, v, h => by
    obtain ⟨a, xs, rfl, hla, hra⟩ := h
    rw [DL.noR, RpL.noR hr hl hra, Bool.and_true]
    refine decide_eq_true fun e => ?_
    subst e
    rcases hla.2 with ⟨e, _⟩ | ⟨_, e⟩
    · exact hr e
    · rw [hl] at e; cases e
  | .tup ds, v, h => by obtain ⟨a, xs, rfl, hla, hra⟩ := h; exact RpL.noR hr hl hra
  | .dct kvs, v, h => by
    obtain ⟨a, rfl, hm, hla⟩ := h
    rcases hla with ⟨ks, h1, h2⟩ | ⟨ks, h1, h2⟩
    · exact RpK.noR hr hl h2
    · exact RpK.noR hr hl h2
  | .obj C fs, v, h => by obtain ⟨a, dx, vs, rfl, hm, h1, h2⟩ := h; exact RpF.noR hr hl h2
  | .exc C fs, v, h => by obtain ⟨a, dd, vs, _, _, _, _, h2⟩ := h; exact RpF.noR hr hl h2
theorem RpL.noR (hr : r ≠ 0) (hl : ∀ a, w.ln r a = none) : ∀ {ds : List D} {vs : List V}, RpL K w ds vs → noRL r ds = true
  | [], _, _ => rfl
  | d :: ds, vs, h => by
    obtain ⟨x, q, rfl, h1, h2⟩ := h
    rw [noRL, Rp.noR hr hl h1, RpL.noR hr hl h2]; rfl
theorem RpK.noR (hr : r ≠ 0) (hl : ∀ a, w.ln r a = none) : ∀ {ds : List (D × D)} {vs : List (D × V)}, RpK K w ds vs → noRK r ds = true
  | [], _, _ => rfl
  | (q, d) :: ds, vs, h => by
    obtain ⟨x, q, rfl, h1, h2⟩ := h
    rw [noRK, Rp.noR hr hl h1, RpK.noR hr hl h2]; rfl
theorem RpF.noR (hr : r ≠ 0) (hl : ∀ a, w.ln r a = none) : ∀ {ds : List (Str × D)} {vs : List (Str × V)}, RpF K w ds vs → noRF r ds = true
  | [], _, _ => rfl
  | (q, d) :: ds, vs, h => by
    obtain ⟨x, q, rfl, h1, h2⟩ := h
    rw [noRF, Rp.noR hr hl h1, RpF.noR hr hl h2]; rfl
end
theorem Ok.noR (o : Ok K w) (hr : r ≠ 0) (hl : ∀ a, w.ln r a = none) : ∀ x m, w.M x = some m → noRM r m = true := fun x m h => by
  have z := o.mo x m h
  cases m with
  | lst ds => obtain ⟨xs, _, h2⟩ := z; exact RpL.noR hr hl h2
  | bag => rfl
  | dK kvs => obtain ⟨ks, _, h2, _⟩ := z; exact RpK.noR hr hl h2
  | dT kvs => obtain ⟨ks, _, h2, _⟩ := z; exact RpK.noR hr hl h2
  | ins C fs => obtain ⟨dx, vs, _, h2⟩ := z; exact RpF.noR hr hl h2
/-- what stands out of region r, from w to w' -/
structure Bk (r : Nat) (w w' : Wd) : Prop where
  fr : ∀ a, Fr w a → Fr w' a
  ln : ∀ s a u, s ≠ r → w.ln s a = some u → w'.ln s a = some u
  H : w'.H = w.H
  ex : w'.ex = w.ex
  cl : w'.cl = w.cl
mutual
theorem Rp.bk (b : Bk r w w') : ∀ {d : D} {v : V}, noR r d = true → Rp K w d v → Rp K w' d v
  | .non, _, _, h => h
  | .bl _, _, _, h => h
  | .int _, _, _, h => h
  | .str _, _, _, h => h
  | .ref _, _, _, h => h
  | .ty _, _, _, h => h
  | .cls n, v, _, h => by show v = .ref (w'.cl n); rw [b.cl]; exact h
  | .scr ns, v, _, h => by
    obtain ⟨a, rfl, h1⟩ := h
    exact ⟨a, rfl, h1.elim (fun z => .inl ⟨b.fr a z.1, by rw [b.H]; exact z.2⟩) fun z => .inr z⟩
  | .lst s ds, v, n, h => by
    obtain ⟨a, xs, rfl, hl, hr⟩ := h
    rw [DL.noR, Bool.and_eq_true] at n
    refine ⟨a, xs, rfl, ⟨by rw [b.H]; exact hl.1, ?_⟩, RpL.bk b n.2 hr⟩
    rcases hl.2 with ⟨e, f⟩ | ⟨e, f⟩
    · exact .inl ⟨e, b.fr a f⟩
    · exact .inr ⟨e, b.ln s a _ (of_decide_eq_true n.1) f⟩
  | .tup ds, v, n, h => by
    obtain ⟨a, xs, rfl, hl, hr⟩ := h
    exact ⟨a, xs, rfl, hl.elim (fun z => .inl ⟨b.fr a z.1, by rw [b.H]; exact z.2⟩) fun z => .inr z, RpL.bk b n hr⟩
  | .dct kvs, v, n, h => by
    obtain ⟨a, rfl, hm, hl⟩ := h
    rcases hl with ⟨ks, h1, h2⟩ | ⟨ks, h1, h2⟩
    · exact ⟨a, rfl, b.fr a hm, .inl ⟨ks, by rw [b.H]; exact h1, RpK.bk b n h2⟩⟩
    · exact ⟨a, rfl, b.fr a hm, .inr ⟨ks, by rw [b.H]; exact h1, RpK.bk b n h2⟩⟩
  | .obj C fs, v, n, h => by
    obtain ⟨a, dx, vs, rfl, hm, h1, h2⟩ := h
    exact ⟨a, dx, vs, rfl, b.fr a hm, by rw [b.H, b.cl]; exact h1, RpF.bk b n h2⟩
  | .exc C fs, v, n, h => by
    obtain ⟨a, dd, vs, rfl, he, hm, h1, h2⟩ := h
    exact ⟨a, dd, vs, rfl, by rw [b.ex, b.cl]; exact he, b.fr dd hm, by rw [b.H]; exact h1, RpF.bk b n h2⟩
theorem RpL.bk (b : Bk r w w') : ∀ {ds : List D} {vs : List V}, noRL r ds = true → RpL K w ds vs → RpL K w' ds vs
  | [], _, _, h => h
  | d :: ds, vs, n, h => by
    obtain ⟨x, q, rfl, h1, h2⟩ := h
    rw [noRL, Bool.and_eq_true] at n
    exact ⟨x, q, rfl, Rp.bk b n.1 h1, RpL.bk b n.2 h2⟩
theorem RpK.bk (b : Bk r w w') : ∀ {ds : List (D × D)} {vs : List (D × V)}, noRK r ds = true → RpK K w ds vs → RpK K w' ds vs
  | [], _, _, h => h
  | (k, d) :: ds, vs, n, h => by
    obtain ⟨x, q, rfl, h1, h2⟩ := h
    rw [noRK, Bool.and_eq_true] at n
    exact ⟨x, q, rfl, Rp.bk b n.1 h1, RpK.bk b n.2 h2⟩
theorem RpF.bk (b : Bk r w w') : ∀ {ds : List (Str × D)} {vs : List (Str × V)}, noRF r ds = true → RpF K w ds vs → RpF K w' ds vs
  | [], _, _, h => h
  | (k, d) :: ds, vs, n, h => by
    obtain ⟨x, q, rfl, h1, h2⟩ := h
    rw [noRF, Bool.and_eq_true] at n
    exact ⟨x, q, rfl, Rp.bk b n.1 h1, RpF.bk b n.2 h2⟩
end
theorem MOk.bk (b : Bk r w w') {a : Addr} {m : MO} (hf : ∀ c, Fr w c → Fr w' c) (n : noRM r m = true) (h : MOk K w a m) : MOk K w' a m := by
  cases m with
  | lst ds => obtain ⟨xs, h1, h2⟩ := h; exact ⟨xs, by rw [b.H]; exact h1, RpL.bk b n h2⟩
  | bag =>
    obtain ⟨c, cs, i, r', m, h1, h2, h3⟩ := h
    refine ⟨c, cs, i, r', m, by rw [b.H]; exact h1, ⟨by rw [b.H]; exact h2.1, ?_⟩, h3⟩
    rcases h2.2 with ⟨e, f⟩ | ⟨e, f⟩
    · exact .inl ⟨e, b.fr c f⟩
    · exact absurd rfl e
  | dK kvs => obtain ⟨xs, h1, h2, h3⟩ := h; exact ⟨xs, by rw [b.H]; exact h1, RpK.bk b n h2, h3⟩
  | dT kvs => obtain ⟨xs, h1, h2, h3⟩ := h; exact ⟨xs, by rw [b.H]; exact h1, RpK.bk b n h2, h3⟩
  | ins C fs => obtain ⟨dx, vs, h1, h2⟩ := h; exact ⟨dx, vs, by rw [b.H, b.cl]; exact h1, RpF.bk b n h2⟩
end
/-! ### lending -/
open Classical in
noncomputable def ld (M : Mu) (lent : Addr → Prop) (r : Nat) : Nat → D → D
  | 0, d => d
  | n + 1, .ref a => if lent a then (match M a with | some (.lst xs) => .lst r (xs.map (ld M lent r n)) | _ => .ref a) else .ref a
  | n + 1, .tup xs => .tup (xs.map (ld M lent r n))
  | n + 1, .lst s xs => .lst s (xs.map (ld M lent r n))
  | _, d => d
open Classical in
noncomputable def back (M3 M : Mu) (lent : Addr → Prop) : Mu := fun a => if lent a then M a else M3 a
/-- a call to which owned lists are lent -/
def lendSp (s : DSp) : DSp := fun ds M Q E => ∃ lent : Addr → Prop, (∀ a, lent a → ∃ xs, M a = some (.lst xs)) ∧ ∀ r, r ≠ 0 → (∀ a m, M a = some m → noRM r m = true) → noRL r ds = true →
  s (ds.map (ld M lent r 9)) (drop M lent) (fun d M3 => (∀ a, lent a → M3 a = none) → noR r d = true ∧ (∀ a m, M3 a = some m → noRM r m = true) ∧ Q d (back M3 M lent)) (fun n fs M3 => (∀ a, lent a → M3 a = none) → noRF r fs = true ∧ (∀ a m, M3 a = some m → noRM r m = true) ∧ E n fs (back M3 M lent))
section
variable {K : PySem.W.Frag} {w : Wd} {lent : Addr → Prop} {r : Nat}
open Classical in
noncomputable def Wd.le (w : Wd) (lent : Addr → Prop) (r : Nat) : Wd := { w with M := drop w.M lent, ln := fun s a => if s = r ∧ lent a then w.H a else w.ln s a }
theorem le_ln1 {a : Addr} (h : lent a) : (w.le lent r).ln r a = w.H a := by unfold Wd.le; simp [h]
theorem le_ln2 {s : Nat} {a : Addr} (h : ¬ (s = r ∧ lent a)) : (w.le lent r).ln s a = w.ln s a := by unfold Wd.le; simp only; rw [if_neg h]
theorem kp_le (o : Ok K w) (hl : ∀ a, lent a → ∃ xs, w.M a = some (.lst xs)) (hr : ∀ a, w.ln r a = none) : Kp w (w.le lent r) := Kp.of (fun a u hf e _ => ⟨⟨drop_none hf.m, hf.h, fun s => by
  rw [le_ln2 (fun z => by obtain ⟨xs, q⟩ := hl a z.2; rw [hf.m] at q; cases q)]; exact hf.l s⟩, e⟩) (fun s a u e => ⟨by rw [le_ln2 (fun z => by rw [z.1, hr] at e; cases e)]; exact e, id⟩) rfl rfl rfl
theorem ok_le (o : Ok K w) (hl : ∀ a, lent a → ∃ xs, w.M a = some (.lst xs)) (hr : ∀ a, w.ln r a = none) : Ok K (w.le lent r) where
  mo := fun a m e => (o.mo a m (drop_some e)).mono (kp_le o hl hr) rfl
  hid := o.hid
  ap := fun a m e => o.ap a m (drop_some e)
  len := fun s a u e => by
    by_cases h : s = r ∧ lent a
    · rw [h.1, le_ln1 h.2] at e; exact e
    · rw [le_ln2 h] at e; exact o.len s a u e
  lap := fun s a u e => by
    by_cases h : s = r ∧ lent a
    · obtain ⟨xs, q⟩ := hl a h.2
      exact ⟨drop_dead h.2, o.ap a _ q⟩
    · rw [le_ln2 h] at e; exact ⟨drop_none (o.lap s a u e).1, (o.lap s a u e).2⟩
  lfr := by
    obtain ⟨n, h⟩ := o.lfr
    refine ⟨max n (r + 1), fun s hs a => ?_⟩
    rw [le_ln2 (fun z => by have := z.1; omega)]; exact h s (by omega) a
  hl := o.hl
  ll := fun s a u e => by
    by_cases h : s = r ∧ lent a
    · rw [h.1, le_ln1 h.2] at e
      obtain ⟨xs, q⟩ := hl a h.2
      obtain ⟨vs, h1, _⟩ := (show ∃ vs, w.H a = some (.lst vs) ∧ RpL K w xs vs from o.mo a _ q)
      rw [h1] at e; cases e; exact ⟨_, rfl⟩
    · rw [le_ln2 h] at e; exact o.ll s a u e
  tabs := o.tabs
theorem ld_rp (o : Ok K w) (hl : ∀ a, lent a → ∃ xs, w.M a = some (.lst xs)) (hr : ∀ a, w.ln r a = none) (h0 : r ≠ 0) : ∀ (n : Nat) (d : D) (v : V), Rp K w d v → Rp K (w.le lent r) (ld w.M lent r n d) v := by
  have kp := kp_le o hl hr
  intro n
  induction n with
  | zero => intro d v z; exact z.mono kp
  | succ n ih =>
    intro d v z
    cases d with
    | ref a =>
      obtain rfl : v = .ref a := z
      unfold ld
      split
      · rename_i hd
        cases e : w.M a with
        | none => rfl
        | some m =>
          cases m with
          | lst xs =>
            obtain ⟨vs, h1, h2⟩ := (show ∃ vs, w.H a = some (.lst vs) ∧ RpL K w xs vs from o.mo a _ e)
            exact ⟨a, vs, rfl, ⟨h1, .inr ⟨h0, by rw [le_ln1 hd]; exact h1⟩⟩, rpL_map ih h2⟩
          | _ => rfl
      · rfl
    | tup xs => obtain ⟨a, vs, rfl, h1, h2⟩ := z; exact ⟨a, vs, rfl, h1.mono kp, rpL_map ih h2⟩
    | lst t xs => obtain ⟨a, vs, rfl, h1, h2⟩ := z; exact ⟨a, vs, rfl, h1.mono kp, rpL_map ih h2⟩
    | obj c fs => exact z.mono kp
    | non => exact z.mono kp
    | bl _ => exact z.mono kp
    | int _ => exact z.mono kp
    | str _ => exact z.mono kp
    | ty _ => exact z.mono kp
    | scr _ => exact z.mono kp
    | dct _ => exact z.mono kp
    | exc _ _ => exact z.mono kp
    | cls _ => exact z.mono kp
/-- behind the call: what was lent is owned again -/
noncomputable def Wd.un (w3 w : Wd) (lent : Addr → Prop) : Wd := { w3 with M := back w3.M w.M lent, ln := w.ln }
theorem back_lent {M3 M : Mu} {a : Addr} (h : lent a) : back M3 M lent a = M a := by unfold back; rw [if_pos h]
theorem back_not {M3 M : Mu} {a : Addr} (h : ¬ lent a) : back M3 M lent a = M3 a := by unfold back; rw [if_neg h]
theorem un_all {w3 : Wd} (o : Ok K w) (hl : ∀ a, lent a → ∃ xs, w.M a = some (.lst xs)) (hr : ∀ a, w.ln r a = none) (b : Bh K (w.le lent r) w3) (hn : ∀ a m, w3.M a = some m → noRM r m = true) :
    Bk r w3 (w3.un w lent) ∧ Bh K w (w3.un w lent) := by
  have kp0 := kp_le o hl hr
  have l3 : ∀ s a, w3.ln s a = (w.le lent r).ln s a := fun s a => by rw [b.ln]
  have nl : ∀ a, Fr w3 a → ¬ lent a := fun a f h => by
    obtain ⟨xs, q⟩ := hl a h
    obtain ⟨vs, h1, _⟩ := (show ∃ vs, w.H a = some (.lst vs) ∧ RpL K w xs vs from o.mo a _ q)
    have := f.l r
    rw [l3, le_ln1 h, h1] at this; cases this
  have fr4 : ∀ a, Fr w3 a → Fr (w3.un w lent) a := fun a f => ⟨by show back _ _ _ a = none; rw [back_not (nl a f)]; exact f.m, f.h, fun s => by
    have := f.l s
    show w.ln s a = none
    by_cases e : s = r
    · rw [e]; exact hr a
    · rw [l3, le_ln2 (fun z => e z.1)] at this; exact this⟩
  have bk : Bk r w3 (w3.un w lent) := ⟨fr4, fun s a u hs e => by
    rw [l3, le_ln2 (fun z => hs z.1)] at e; exact e, rfl, rfl, rfl⟩
  have hlent : ∀ a xs vs, lent a → w.M a = some (.lst xs) → w.H a = some (.lst vs) → w3.H a = some (.lst vs) := fun a xs vs h q h1 => (b.kp.ln r a (.lst vs) (by rw [le_ln1 h]; exact h1)).2 h1
  have kp4 : Kp w (w3.un w lent) := ⟨fun a u f e nt => by
    obtain ⟨f1, u1, e1, q1⟩ := kp0.fr a u f e nt
    obtain ⟨f2, u2, e2, q2⟩ := b.kp.fr a u1 f1 e1 (fun ps z => by subst z; exact nt ps (unl_tbl q1.symm))
    exact ⟨fr4 a f2, u2, e2, q2.trans q1⟩, fun s a u e => ⟨e, fun q => by
    have e1 : (w.le lent r).ln s a = some u := (kp0.ln s a u e).1
    exact (b.kp.ln s a u e1).2 q⟩, b.kp.ex, b.kp.cl, b.kp.tb⟩
  refine ⟨bk, kp4, ⟨fun a m e => ?_, b.ok.hid, fun a m e => ?_, fun s a u e => ?_, fun s a u e => ?_, o.lfr, b.ok.hl, o.ll, b.ok.tabs⟩, b.hd, rfl⟩
  · by_cases h : lent a
    · have e' : w.M a = some m := by rw [← e]; exact (back_lent h).symm
      obtain ⟨xs, q⟩ := hl a h
      rw [q] at e'; cases e'
      obtain ⟨vs, h1, h2⟩ := (show ∃ vs, w.H a = some (.lst vs) ∧ RpL K w xs vs from o.mo a _ q)
      exact ⟨vs, hlent a xs vs h q h1, h2.mono kp4⟩
    · have e' : w3.M a = some m := by rw [← e]; exact (back_not h).symm
      exact MOk.bk bk fr4 (hn a m e') (b.ok.mo a m e')
  · by_cases h : lent a
    · have e' : w.M a = some m := by rw [← e]; exact (back_lent h).symm
      show w3.hd a = none; rw [b.hd]; exact o.ap a m e'
    · have e' : w3.M a = some m := by rw [← e]; exact (back_not h).symm
      exact b.ok.ap a m e'
  · exact b.ok.len s a u (by rw [l3]; exact (kp0.ln s a u e).1)
  · have e1 : w3.ln s a = some u := by rw [l3]; exact (kp0.ln s a u e).1
    refine ⟨?_, (b.ok.lap s a u e1).2⟩
    show back _ _ _ a = none
    by_cases h : lent a
    · rw [back_lent h]; exact (o.lap s a u e).1
    · rw [back_not h]; exact (b.ok.lap s a u e1).1
theorem lend_up {cl : Str → Addr} {tb : List (Addr × Str)} {s : DSp} {vs : List V} {H : Hp} {Q : VK} {E : XK} (h : upX K cl tb (lendSp s) vs H Q E) : upX K cl tb s vs H Q E := by
  obtain ⟨w, ds, Q', E', hH, hcc, ok, rp, ⟨lent, hl, h⟩, k, kx⟩ := h
  obtain ⟨n, hn⟩ := ok.lfr
  have hr : ∀ a, w.ln (n + 1) a = none := hn (n + 1) (by omega)
  have h0 : n + 1 ≠ 0 := by omega
  have kp := kp_le ok hl hr
  have none3 : ∀ {w3 : Wd}, Bh K (w.le lent (n + 1)) w3 → ∀ a, lent a → w3.M a = none := fun {w3} b a ha => by
    obtain ⟨xs, q⟩ := hl a ha
    obtain ⟨vs, h1, _⟩ := (show ∃ vs, w.H a = some (.lst vs) ∧ RpL K w xs vs from ok.mo a _ q)
    exact (b.ok.lap (n + 1) a (.lst vs) (by rw [b.ln, le_ln1 ha]; exact h1)).1
  refine ⟨w.le lent (n + 1), ds.map (ld w.M lent (n + 1) 9), _, _, hH, ⟨hcc.cl, hcc.ex, hcc.tb⟩, ok_le ok hl hr, rpL_map (ld_rp ok hl hr h0 9) rp, h (n + 1) h0 (ok.noR h0 hr) (RpL.noR h0 hr rp), fun d w3 v q b r => ?_, fun m fs w3 dd vs q b f hx r => ?_⟩
  · obtain ⟨q1, q2, q3⟩ := q (none3 b)
    obtain ⟨bk, b4⟩ := un_all ok hl hr b q2
    exact k d (w3.un w lent) v q3 b4 (Rp.bk bk q1 r)
  · obtain ⟨q1, q2, q3⟩ := q (none3 b)
    obtain ⟨bk, b4⟩ := un_all ok hl hr b q2
    exact kx m fs (w3.un w lent) dd vs q3 b4 (bk.fr dd f) hx (RpF.bk bk q1 r)
end
theorem FnOk.lend {P : Program} {w : World} {K : PySem.W.Frag} {mg : Str → Option Value} {base : Heap} {CX : CXT} {k : Nat} {f : Addr} {fd : FuncData} {ps : List Str} {cl : Str → Addr} {tb : List (Addr × Str)} {s : DSp} (F : FnOk P w K mg base CX k f fd ps (upX K cl tb s)) : FnOk P w K mg base CX k f fd ps (upX K cl tb (lendSp s)) :=
  ⟨fun vs H Q E h => F.len vs H Q E (lend_up h), fun A outer sh H args us vs Q E hr he hb hv h => F.run A outer sh H args us vs Q E hr he hb hv (lend_up h)⟩
theorem Fnd.lend {P : Program} {w : World} {K : PySem.W.Frag} {mg : Str → Option Value} {base : Heap} {cl : Str → Addr} {tb : List (Addr × Str)} {k : Nat} {x : Str} {st : Stmt} {ps : List Str} {s : DSp} (F : Fnd P w K mg base cl tb k x st ps s) : Fnd P w K mg base cl tb k x st ps (lendSp s) := by
  obtain ⟨f, fd, a, b, c⟩ := F.ex
  exact ⟨f, fd, a, FnOk.lend b, c⟩
end DL
/-! The data layer, part w: instances: fields, methods, new ones; constants and static methods of a class. -/
namespace DL
open PySem L2 PyProof.Rows
/-! ### fields -/
def putD (f : Str) (d : D) : List (Str × D) → List (Str × D)
  | [] => [(f, d)]
  | (g, x) :: r => if g = f then (g, d) :: r else (g, x) :: putD f d r
theorem putD_rp {K : PySem.W.Frag} {w : Wd} {f : Str} {d : D} {v : V} (h : Rp K w d v) : ∀ {fs : List (Str × D)} {vs : List (Str × V)}, RpF K w fs vs → RpF K w (putD f d fs) (putF f v vs)
  | [], vs, r => by obtain rfl : vs = [] := r; exact ⟨v, [], rfl, h, rfl⟩
  | (g, x) :: fs, vs, r => by
    obtain ⟨y, q, rfl, r1, r2⟩ := r
    unfold putD putF
    split
    · exact ⟨v, q, rfl, h, r2⟩
    · exact ⟨y, _, rfl, r1, putD_rp h r2⟩
theorem rpF_len {K : PySem.W.Frag} {w : Wd} : ∀ {fs : List (Str × D)} {vs : List (Str × V)}, RpF K w fs vs → vs.length = fs.length
  | [], vs, r => by obtain rfl : vs = [] := r; rfl
  | (g, x) :: fs, vs, r => by
    obtain ⟨y, q, rfl, r1, r2⟩ := r
    rw [List.length_cons, List.length_cons, rpF_len r2]
theorem rpF_none {K : PySem.W.Frag} {w : Wd} {f : Str} : ∀ {fs : List (Str × D)} {vs : List (Str × V)}, RpF K w fs vs → fs.lookup f = none → vs.lookup f = none
  | [], vs, r, _ => by obtain rfl : vs = [] := r; rfl
  | (g, x) :: fs, vs, r, h => by
    obtain ⟨y, q, rfl, r1, r2⟩ := r
    rw [List.lookup_cons] at h ⊢
    split at h
    · cases h
    · exact rpF_none r2 h
/-- an own class: its fields are no attributes of the class -/
structure ClsD (K : PySem.W.Frag) (cl : Str → Addr) (n : Str) (fl : List Str) : Prop where
  cls : Cls K (cl n)
  no : ∀ f ∈ fl, NoAttr K (cl n) f
/-- the fields of x, an instance of n -/
def insF (n : Str) (x : D) (M : Mu) : Option (List (Str × D)) := match x with
  | .obj m fs => if m = n then some fs else none
  | .ref a => (match M a with | some (.ins m fs) => if m = n then some fs else none | _ => none)
  | _ => none
theorem insF_at {K : PySem.W.Frag} {w : Wd} {n : Str} {x : D} {v : V} {fs : List (Str × D)} (o : Ok K w) (r : Rp K w x v) (h : insF n x w.M = some fs) : ∃ a dx vs, v = .ref a ∧ w.H a = some (.ins (w.cl n) dx vs) ∧ RpF K w fs vs := by
  unfold insF at h
  cases x with
  | obj m gs =>
    obtain ⟨a, dx, vs, rfl, f, h1, h2⟩ := r
    simp only at h
    split at h
    · rename_i e; cases h; subst e; exact ⟨a, dx, vs, rfl, h1, h2⟩
    · cases h
  | ref a =>
    obtain rfl : v = .ref a := r
    simp only at h
    cases em : w.M a with
    | none => rw [em] at h; cases h
    | some m =>
      rw [em] at h
      cases m with
      | ins m gs =>
        simp only at h
        split at h
        · rename_i e; cases h; subst e
          obtain ⟨dx, vs, h1, h2⟩ := (show ∃ dx vs, w.H a = some (.ins (w.cl m) dx vs) ∧ RpF K w _ vs from o.mo a _ em)
          exact ⟨a, dx, vs, rfl, h1, h2⟩
        · cases h
      | _ => cases h
  | _ => cases h
section
variable {X : Cx} {c : Wd} {e o value : Expr} {es : List Expr} {te ta tv : DE} {tl tk : DA} {pos p apos pos' : Pos} {n f m x : Str} {fl : List Str} {cl : Str → Addr} {tb : List (Addr × Str)} {k : Nat} {st : Stmt} {ps : List Str} {s : DSp} {E : DXK}
@[simp] def dFld (n f : Str) (to : DE) : DE := fun ρ M Q => to ρ M fun x M1 => match insF n x M1 with
  | some fs => (match fs.lookup f with | some d => Q d M1 | none => False)
  | none => False
theorem pd_fld (hcl : c.cl = cl) (C : ClsD X.K cl n fl) (he : PD c X e ta) (hf : f ∈ fl := by decide) (hb : attributeBase e f X.env (eval e X.env) = eval e X.env := by rfl) : PD c X (.Attribute e f pos) (dFld n f ta) :=
  PE_imp (pe_fld he hb) fun σ H Q ⟨ρ, w, Q', hH, a, h, k⟩ => ⟨ρ, w, _, hH, a, h, fun d w1 v q b r => by
    cases ei : insF n d w1.M with
    | none => simp only [ei] at q
    | some fs =>
      simp only [ei] at q
      obtain ⟨ad, dx, vs, rfl, h1, h2⟩ := insF_at b.ok r ei
      cases el : fs.lookup f with
      | none => simp only [el] at q
      | some z =>
        simp only [el] at q
        obtain ⟨u, e1, e2⟩ := rpF_lookup h2 el
        have ecl : w1.cl n = cl n := by rw [b.kp.cl, a.kp.cl, hcl]
        exact ⟨ad, w1.cl n, dx, vs, u, rfl, h1, by rw [ecl]; exact C.cls, by rw [ecl]; exact C.no f hf, e1, k z w1 u q b e2⟩⟩
/-- o.f = value, o owned -/
@[simp] def dSetF (n f : Str) (to tv : DE) : DS := fun D ρ M => tv ρ M fun d M1 => to ρ M1 fun x M2 => match x with
  | .ref a => (match M2 a with | some (.ins m fs) => m = n ∧ fs.length < 900 ∧ D.nx ρ (setM M2 a (.ins n (putD f d fs))) | _ => False)
  | _ => False
theorem pds_setF (hcl : c.cl = cl) (C : ClsD X.K cl n fl) (ho : PD c X o ta) (hv : PD c X value tv) (hf : f ∈ fl := by decide) (hs : swapsWith value (some (.Attribute o f pos')) pos.line X.env = pure false := by rfl) : PDS c X (.Assign [.Attribute o f pos'] value pos) (dSetF n f ta tv) :=
  PS_imp (ps_fld ho hv hs) fun D σ H ⟨ρ, w, D', hH, a, h, k⟩ => ⟨ρ, w, _, hH, a, h, fun d w1 v q b1 r1 => ⟨ρ, w1, _, rfl, a.next b1, q, fun x w2 u q2 b2 r2 => by
    cases x with
    | ref l =>
      obtain rfl : u = .ref l := r2
      cases em : w2.M l with
      | none => simp only [em] at q2
      | some mo =>
        cases mo with
        | ins mm fs =>
          simp only [em] at q2
          obtain ⟨rfl, hlen, q2⟩ := q2
          obtain ⟨dx, vs, h1, h2⟩ := (show ∃ dx vs, w2.H l = some (.ins (w2.cl mm) dx vs) ∧ RpF X.K w2 fs vs from b2.ok.mo l _ em)
          have ecl : w2.cl mm = cl mm := by rw [b2.kp.cl, b1.kp.cl, a.kp.cl, hcl]
          refine ⟨l, w2.cl mm, dx, vs, rfl, h1, by rw [ecl]; exact C.cls, by rw [ecl]; exact C.no f hf, by rw [rpF_len h2]; omega, ?_⟩
          have b3 : Bh X.K w2 { w2 with M := setM w2.M l (.ins mm (putD f d fs)), H := upd w2.H l (.ins (w2.cl mm) dx (putF f v vs)) } := Bh.own b2.ok em fun w' e k' => ⟨dx, _, by rw [k'.cl]; exact e, RpF.mono k' (putD_rp (r1.mono b2.kp) h2)⟩
          have b13 := (b1.trans b2).trans b3
          exact k.nx ρ { w2 with M := setM w2.M l (.ins mm (putD f d fs)), H := upd w2.H l (.ins (w2.cl mm) dx (putF f v vs)) } σ q2 b13 (a.next b13)
        | _ => simp only [em] at q2
    | _ => exact q2.elim⟩⟩
/-! ### methods -/
/-- a method of the text that keeps its promise -/
structure Mtd (P : Program) (w : World) (K : PySem.W.Frag) (mg : Str → Option Value) (base : Heap) (cl : Str → Addr) (tb : List (Addr × Str)) (k : Nat) (n m : Str) (ps : List Str) (s : DSp) : Prop where
  ex : ∃ f fd, FnOk P w K mg base (L2N.CX P w) k f fd ps (upX K cl tb s) ∧ Binds K fd ps [] ∧ Meth K (cl n) m f ∧ Cls K (cl n)
theorem Mtd.mono {P : Program} {w : World} {K : PySem.W.Frag} {mg : Str → Option Value} {base : Heap} {j : Nat} (F : Mtd P w K mg base cl tb j n m ps s) (h : j ≤ k) : Mtd P w K mg base cl tb k n m ps s := by
  obtain ⟨f, fd, a, b⟩ := F.ex
  exact ⟨f, fd, a.mono h, b⟩
@[simp] def dMeth (n m : Str) (s : DSp) (E : DXK) (to : DE) (tl : DA) : DE := fun ρ M Q => to ρ M fun x M1 => match insF n x M1 with
  | some fs => fs.lookup m = none ∧ tl ρ M1 fun ds M2 => s (x :: ds) M2 Q E
  | none => False
theorem meth_imp {K : PySem.W.Frag} (hcc : Cc cl tb c) {σ : L2.St} {H : Hp} {Q : VK} (h : lift K c (dMeth n m s E ta tl) σ H Q) : tMeth (cl n) m (upX K cl tb s) [] (XKof K c E) (lift K c ta) (liftA K c tl) σ H Q := by
  obtain ⟨ρ, w, Q', hH, a, h, k⟩ := h
  refine ⟨ρ, w, _, hH, a, h, fun d w1 v q b r => ?_⟩
  cases ei : insF n d w1.M with
  | none => simp only [ei] at q
  | some fs =>
    simp only [ei] at q
    obtain ⟨ad, dx, vs, rfl, h1, h2⟩ := insF_at b.ok r ei
    have ecl : w1.cl n = cl n := by rw [b.kp.cl, a.kp.cl, hcc.cl]
    refine ⟨ad, dx, vs, rfl, by rw [← ecl]; exact h1, rpF_none h2 q.1, ρ, w1, _, rfl, a.next b, q.2, fun ds w2 us q2 b2 r2 => ?_⟩
    show upX K cl tb s (.ref ad :: (us ++ [])) w2.H Q (XKof K c E)
    rw [List.append_nil]
    exact ⟨w2, d :: ds, Q', E, rfl, hcc.sc ((a.kp.trans b.kp).trans b2.kp).sc, b2.ok, ⟨_, _, rfl, r.mono b2.kp, r2⟩, q2, k.back (b.trans b2), wvX_of a (b.trans b2)⟩
theorem pd_meth {pl : Sem Bool} (hcc : Cc cl tb c) (G : Mtd X.prog X.w X.K X.mg X.base cl tb k n m ps s) (hr : Room k X.A) (htk : Tk c X E) (ho : PD c X o ta) (ha : PDA c X (e :: es) tl)
    (hst : starEach (e :: es) X.env = (false, eval e X.env) :: starEach es X.env := by rfl) (hpl : (backTo pos (starEach es X.env)).any (·.1) = false := by rfl)
    (ht : eval (.Call (.Attribute o m apos) (e :: es) [] pos) X.env = (do
      let ov ← eval o X.env
      standAt apos.atName
      let (f, first) ← holding [ov] (getMethod ov m pl)
      callWith pos f first (backTo pos (starEach (e :: es) X.env)) (backToKw pos (keywordEach [] X.env))) := by rfl) : PD c X (.Call (.Attribute o m apos) (e :: es) [] pos) (dMeth n m s E ta tl) := by
  obtain ⟨f, fd, F, hb, hm, hc⟩ := G.ex
  exact PE_imp (pe_meth (pl := pl) ho hc hm F hr hb .nil htk.pass ha hst hpl ht) fun σ H Q h => meth_imp hcc h
theorem pd_meth0 {pl : Sem Bool} (hcc : Cc cl tb c) (G : Mtd X.prog X.w X.K X.mg X.base cl tb k n m ps s) (hr : Room k X.A) (htk : Tk c X E) (ho : PD c X o ta)
    (ht : eval (.Call (.Attribute o m apos) [] [] pos) X.env = (do
      let ov ← eval o X.env
      standAt apos.atName
      let (f, first) ← holding [ov] (getMethod ov m pl)
      callWith pos f first (backTo pos (starEach [] X.env)) (backToKw pos (keywordEach [] X.env))) := by rfl) : PD c X (.Call (.Attribute o m apos) [] [] pos) (dMeth n m s E ta dNil) := by
  obtain ⟨f, fd, F, hb, hm, hc⟩ := G.ex
  refine PE_imp (pe_meth0 (pl := pl) ho hc hm F hr hb .nil htk.pass ht) fun σ H Q h => ?_
  obtain ⟨ρ, w, Q', hH, a, h, k⟩ := h
  refine ⟨ρ, w, _, hH, a, h, fun d w1 v q b r => ?_⟩
  cases ei : insF n d w1.M with
  | none => simp only [ei] at q
  | some fs =>
    simp only [ei] at q
    obtain ⟨ad, dx, vs, rfl, h1, h2⟩ := insF_at b.ok r ei
    have ecl : w1.cl n = cl n := by rw [b.kp.cl, a.kp.cl, hcc.cl]
    exact ⟨ad, dx, vs, rfl, by rw [← ecl]; exact h1, rpF_none h2 q.1, w1, [d], Q', E, rfl, hcc.sc (a.kp.trans b.kp).sc, b.ok, ⟨_, _, rfl, r, rfl⟩, q.2, k.back b, wvX_of a b⟩
/-! ### how arguments come to parameters -/
structure KB (K : PySem.W.Frag) (fd : FuncData) (ps : List Str) (n : Nat) (ks : List Str) (gD : List D → List D → List D) : Prop where
  ex : ∃ g gV, KBn K fd ps n ks g gV ∧ ∀ (w : Wd) (ds es : List D) (vs zs : List V), ds.length = n → es.length = ks.length → RpL K w ds vs → RpL K w es zs → RpL K w (gD ds es) (gV vs zs)
/-! ### new instances -/
/-- a class that is made by its own __init__ -/
structure Mkr (P : Program) (w : World) (K : PySem.W.Frag) (mg : Str → Option Value) (base : Heap) (cl : Str → Addr) (tb : List (Addr × Str)) (k : Nat) (n : Str) (j : Nat) (ks ps : List Str) (gD : List D → List D → List D) (s : DSp) : Prop where
  ex : ∃ f fd, Mk K (cl n) f ∧ FnOk P w K mg base (L2N.CX P w) k f fd ps (upX K cl tb s) ∧ KB K fd ps (j + 1) ks gD ∧ mg n = some (.ref (cl n))
@[simp] def dMake (n : Str) (s : DSp) (E : DXK) (j i : Nat) (gD : List D → List D → List D) (tl tk : DA) : DE := fun ρ M Q => tl ρ M fun ds M1 => tk ρ M1 fun es M2 => ds.length = j ∧ es.length = i ∧ ∀ a, M2 a = none → s (gD (.ref a :: ds) es) (setM M2 a (.ins n [])) (fun d M3 => d = .non ∧ Q (.ref a) M3) E
theorem made {K : PySem.W.Frag} {w : Wd} {x dx : Addr} {n : Str} (ok : Ok K w) (hx : w.H x = none) (hd : w.H dx = none) (hne : dx ≠ x) : Bh K w { w with M := setM w.M x (.ins n []), H := upd (upd w.H dx (.own x)) x (.ins (w.cl n) dx []) } := by
  have b1 : Bh K w (w.at (upd w.H dx (.own x))) := Bh.new ok hd
  exact b1.trans (Bh.newOwn (w := w.at (upd w.H dx (.own x))) (a := x) (u := .ins (w.cl n) dx []) (m' := .ins n []) b1.ok (by show upd w.H dx _ x = none; rw [upd_ne hne.symm]; exact hx) fun w' e k' => ⟨dx, [], by rw [k'.cl]; exact e, rfl⟩)
theorem make_imp {K : PySem.W.Frag} {j i : Nat} {gD : List D → List D → List D} {gV : List V → List V → List V} (hcc : Cc cl tb c) (hg : ∀ (w : Wd) (ds es : List D) (vs zs : List V), ds.length = j + 1 → es.length = i → RpL K w ds vs → RpL K w es zs → RpL K w (gD ds es) (gV vs zs)) {σ : L2.St} {H : Hp} {Q : VK}
    (h : lift K c (dMake n s E j i gD tl tk) σ H Q) : tMakeK (cl n) j i (upX K cl tb s) gV (XKof K c E) (liftA K c tl) (liftA K c tk) σ H Q := by
  obtain ⟨ρ, w, Q', hH, a, h, k⟩ := h
  refine ⟨ρ, w, _, hH, a, h, fun ds w1 vs q b r => ⟨ρ, w1, _, rfl, a.next b, q, fun es w2 zs q2 b2 r2 => ?_⟩⟩
  obtain ⟨l1, l2, q2⟩ := q2
  refine ⟨by rw [r.length]; exact l1, by rw [r2.length]; exact l2, fun x dx hx hd hne => ?_⟩
  have ecl : w2.cl n = cl n := by rw [b2.kp.cl, b.kp.cl, a.kp.cl, hcc.cl]
  have b3 := made (n := n) b2.ok hx hd hne
  have b03 := (b.trans b2).trans b3
  refine ⟨{ w2 with M := setM w2.M x (.ins n []), H := upd (upd w2.H dx (.own x)) x (.ins (w2.cl n) dx []) }, gD (.ref x :: ds) es, _, E, by show upd _ _ _ = _; rw [ecl], hcc.sc (a.kp.trans b03.kp).sc, b3.ok, ?_, q2 x (b2.ok.fresh hx).m, fun d w4 v q4 b4 r4 => ?_, wvX_of a b03⟩
  · exact hg _ _ _ _ _ (by rw [List.length_cons, l1]) l2 ⟨_, _, rfl, rfl, (r.mono b2.kp).mono b3.kp⟩ (r2.mono b3.kp)
  · obtain ⟨rfl, q4⟩ := q4
    exact ⟨r4, k (.ref x) w4 (.ref x) q4 (b03.trans b4) rfl⟩
theorem pd_makeK {kws : List Keyword} {ks : List Str} {j : Nat} {gD : List D → List D → List D} (hcc : Cc cl tb c) (G : Mkr X.prog X.w X.K X.mg X.base cl tb k n j ks ps gD s) (hr : Room (k + 1) X.A) (htk : Tk c X E) (ha : PDA c X (e :: es) tl) (hkw : PDK c X kws tk) (hg : Gl X n := by rfl)
    (hall : (backToKw pos (keywordEach kws X.env)).all (·.1.isSome) = true := by rfl) (hks : (backToKw pos (keywordEach kws X.env)).filterMap (·.1) = ks := by rfl) (hdb : (n == ("__debug__" : Str)) = false := by decide)
    (he : starEach (e :: es) X.env = (false, eval e X.env) :: starEach es X.env := by rfl) (hpl : ((backTo pos (starEach (e :: es) X.env)).any (·.1) || (backToKw pos (keywordEach kws X.env)).any (·.1.isNone)) = false := by rfl) :
    PD c X (.Call (.Name n p) (e :: es) kws pos) (dMake n s E j ks.length gD tl tk) := by
  obtain ⟨f, fd, M, F, ⟨g, gV, hb, hgl⟩, hm⟩ := G.ex
  exact PE_imp (pe_makeK M F hr hg hm hb htk.pass ha hkw hall hks hdb he hpl) fun σ H Q h => make_imp hcc hgl h
theorem pd_makeK0 {kws : List Keyword} {ks : List Str} {gD : List D → List D → List D} (hcc : Cc cl tb c) (G : Mkr X.prog X.w X.K X.mg X.base cl tb k n 0 ks ps gD s) (hr : Room (k + 1) X.A) (htk : Tk c X E) (hkw : PDK c X kws tk) (hg : Gl X n := by rfl)
    (hall : (backToKw pos (keywordEach kws X.env)).all (·.1.isSome) = true := by rfl) (hks : (backToKw pos (keywordEach kws X.env)).filterMap (·.1) = ks := by rfl) (hdb : (n == ("__debug__" : Str)) = false := by decide)
    (hpl : ((backTo pos (starEach [] X.env)).any (·.1) || (backToKw pos (keywordEach kws X.env)).any (·.1.isNone)) = false := by rfl) :
    PD c X (.Call (.Name n p) [] kws pos) (dMake n s E 0 ks.length gD dNil tk) := by
  obtain ⟨f, fd, M, F, ⟨g, gV, hb, hgl⟩, hm⟩ := G.ex
  refine PE_imp (pe_makeK0 M F hr hg hm hb htk.pass hkw hall hks hdb hpl) fun σ H Q h => ?_
  obtain ⟨ρ, w, Q', hH, a, h', k⟩ := make_imp hcc hgl h
  subst hH
  exact k [] w [] h' (Bh.refl a.ok) rfl
/-! ### constants of a class -/
/-- C.f is this constant -/
structure CCon (K : PySem.W.Frag) (mg : Str → Option Value) (cl : Str → Addr) (n f : Str) (d : D) : Prop where
  glo : mg n = some (.ref (cl n))
  ex : ∃ mc v u, ClX.CRead K (cl n) mc ∧ ClX.CVal K (cl n) mc f v u ∧ ∀ w, Rp K w d v
theorem pd_ccon {d : D} (G : CCon X.K X.mg cl n f d) (hg : Gl X n := by rfl) (hdb : (n == ("__debug__" : Str)) = false := by decide) (hb : attributeBase (.Name n p) f X.env (eval (.Name n p) X.env) = eval (.Name n p) X.env := by rfl) : PD c X (.Attribute (.Name n p) f pos) (dC d) := by
  obtain ⟨mc, v, u, h1, h2, h3⟩ := G.ex
  refine PE_imp (ClX.pe_cval (pe_glob (v := .ref (cl n)) hg G.glo rfl hdb) hb) fun σ H Q ⟨ρ, w, Q', hH, a, h, k⟩ => ?_
  exact ⟨cl n, mc, v, u, rfl, h1, h2, hH ▸ k.here a.ok h (h3 w)⟩
end
end DL
/-! The data layer, part x: defs that tidy up, comprehensions with two clauses, dicts with tuple keys that are owned, more of texts and displays. -/
namespace DL
open PySem L2
/-! ### a def may let go of what is new when it ends -/
def fzX (E : DXK) : DXK := fun n fs M => ∃ dead, E n (fs.map fun p => (p.1, rs M dead 9 p.2)) (drop M dead)
theorem rs_id {M : Mu} : ∀ (n : Nat) (d : D), rs M (fun _ => False) n d = d
  | 0, d => rfl
  | n + 1, d => by
    have h : rs M (fun _ => False) n = id := funext (rs_id n)
    cases d with
    | ref a => simp [rs]
    | tup xs => simp [rs, h]
    | lst t xs => simp [rs, h]
    | obj c fs => simp [rs, h]
    | _ => rfl
theorem drop_id {M : Mu} : drop M (fun _ => False) = M := by funext a; simp [drop]
theorem fz_same {Q : DK} {d : D} {M : Mu} (q : Q d M) : fzK Q d M := ⟨fun _ => False, by rw [rs_id, drop_id]; exact q⟩
theorem fzX_same {E : DXK} {n : Str} {fs : List (Str × D)} {M : Mu} (q : E n fs M) : fzX E n fs M := ⟨fun _ => False, by rw [drop_id]; simpa [rs_id] using q⟩
theorem fzX_new {E : DXK} {n : Str} {fs : List (Str × D)} {M M0 : Mu} (h : Ex M0 M) (q : E n (fs.map fun p => (p.1, rs M (newIn M0) 9 p.2)) M0) : fzX E n fs M := ⟨newIn M0, by rw [drop_new h]; exact q⟩
theorem wv_fz {K : PySem.W.Frag} {w : Wd} {Q' : DK} {Q : VK} (k : Wv K w Q' Q) : Wv K w (fzK Q') Q := fun d w1 v ⟨dead, q⟩ b r => k _ (w1.dr dead) v q (b.trans (bh_drop b.ok)) (rs_rp b.ok 9 d v r)
theorem wvX_fz {K : PySem.W.Frag} {w : Wd} {E' : DXK} {E : XK} (k : WvX K w E' E) : WvX K w (fzX E') E := fun n fs w1 dd vs ⟨dead, q⟩ b f hx r => k n _ (w1.dr dead) dd vs q (b.trans (bh_drop b.ok)) ⟨drop_none f.m, f.h, f.l⟩ hx (rpF_map (rs_rp b.ok 9) r)
section
variable {P : Program} {w : World} {K : PySem.W.Frag} {mg : Str → Option Value} {base : Heap} {x qual : Str} {st : Stmt} {dvs : List V} {kws : List (Str × V)} {f : Addr} {fd : FuncData} {cl : Str → Addr} {tb : List (Addr × Str)}
def tidy (s : DSp) : DSp := fun ds M Q E => ∃ Q0 E0, s ds M Q0 E0 ∧ Q = fzK Q0 ∧ E = fzX E0
theorem tidy_up {s : DSp} {vs : List V} {H : Hp} {Q : VK} {E : XK} (h : upX K cl tb s vs H Q E) : upX K cl tb (tidy s) vs H Q E := by
  obtain ⟨w, ds, Q', E', hH, hcc, ok, rp, h, k, kx⟩ := h
  exact ⟨w, ds, fzK Q', fzX E', hH, hcc, ok, rp, ⟨Q', E', h, rfl, rfl⟩, wv_fz k, wvX_fz kx⟩
theorem FnOk.tidy {CX : CXT} {k : Nat} {ps : List Str} {s : DSp} (F : FnOk P w K mg base CX k f fd ps (upX K cl tb (tidy s))) : FnOk P w K mg base CX k f fd ps (upX K cl tb s) :=
  ⟨fun vs H Q E h => F.len vs H Q E (tidy_up h), fun A outer sh H args us vs Q E hr he hb hv h => F.run A outer sh H args us vs Q E hr he hb hv (tidy_up h)⟩
theorem fnXz {N ps : List Str} {k : Nat} {s : DSp} {t : DXK → DS} (F : FunD K x qual (defArgs st) (defBody st) (defScope st) dvs kws f fd) (S : FnScope N ps (defScope st))
    (hb : ∀ (cdv : Value) (A : Around) (outer : List Env) (sh : Shared) (H : Hp) (E : XK) (c : Wd) (E' : DXK), Cc cl tb c → Room k (A.deeper (PyProof.Rows.envOfC qual (defScope st) sh.heap.objs.size f cdv)) → Tk c (cxOf (L2N.CX P w) P w K mg base N qual (defScope st) f cdv A outer sh H E) E' →
      PDSs c (cxOf (L2N.CX P w) P w K mg base N qual (defScope st) f cdv A outer sh H E) (defBody st) (t E'))
    (hs : ∀ ds M Q E', s ds M Q E' → ds.length = ps.length ∧ t (fzX E') { nx := fun _ M' => fzK Q .non M', rt := fzK Q } (startD N ds) M) : FnOk P w K mg base (L2N.CX P w) (k + 1) f fd ps (upX K cl tb s) :=
  FnOk.tidy (fnX (s := DL.tidy s) F S hb (by rintro ds M Q E ⟨Q0, E0, h, rfl, rfl⟩; exact hs ds M Q0 E0 h))
end
/-! ### two clauses -/
def compi2i (g1 : DG) (tt1 : DT) (te : DE) (ρ : DEnv) (vs1 : List Nat) : List D → List D → Mu → (List D → Mu → Prop) → Prop
  | [], acc, M, Q => Q acc M
  | y :: ys, acc, M, Q => g1 y (wipeD ρ vs1) M fun ρ3 M1 => tt1 ρ3 M1 fun b M2 => if b = true then te ρ3 M2 fun d M3 => acc.length < 100000 ∧ compi2i g1 tt1 te ρ vs1 ys (acc ++ [d]) M3 Q else compi2i g1 tt1 te ρ vs1 ys acc M2 Q
def compi2 (g : DG) (tt : DT) (ti1 : DI) (g1 : DG) (tt1 : DT) (te : DE) (ρ : DEnv) (vs1 : List Nat) : List D → List D → Mu → DK → Prop
  | [], acc, M, Q => Q (.lst 0 acc) M
  | x :: xs, acc, M, Q => g x ρ M fun ρ2 M1 => tt ρ2 M1 fun b M2 => if b = true then ti1 ρ2 M2 fun es M3 => compi2i g1 tt1 te ρ2 vs1 es acc M3 fun acc' M4 => compi2 g tt ti1 g1 tt1 te ρ vs1 xs acc' M4 Q else compi2 g tt ti1 g1 tt1 te ρ vs1 xs acc M2 Q
@[simp] def dLc2 (ti : DI) (g : DG) (tt : DT) (ti1 : DI) (g1 : DG) (tt1 : DT) (te : DE) (vs vs1 : List Nat) : DE := fun ρ M Q => ti ρ M fun ds M1 => compi2 g tt ti1 g1 tt1 te (wipeD ρ vs) vs1 ds [] M1 Q
def liftIB (K : PySem.W.Frag) (c0 : Wd) (t : DI) : TI := fun σ H R => ∃ c, SC c0 c ∧ liftI K c t σ H R
section
variable {X : Cx} {c : Wd} {e : Expr} {te : DE} {pos : Pos} {ti ti1 : DI} {g g1 : DG} {tt tt1 : DT} {vs vs1 : List Nat}
theorem comp2_imp {K : PySem.W.Frag} {us us1 : List Nat} (hsub : ∀ i ∈ us, i ∈ vs) (hsub1 : ∀ i ∈ us1, i ∈ vs1) {σ : St} {H : Hp} {Q : VK} (h : lift K c (dLc2 ti g tt ti1 g1 tt1 te vs vs1) σ H Q) :
    tLc2 (liftI K c ti) (liftGB K c us g) (liftTB K c tt) (liftIB K c ti1) (liftGB K c us1 g1) (liftTB K c tt1) (liftB K c te) vs vs1 σ H Q := by
  obtain ⟨ρ, w, Q', hH, a, h, k⟩ := h
  refine ⟨ρ, w, _, hH, a, h, fun ds w1 J q b1 it L hL => ?_⟩
  have a1 := a.next b1
  have fL := b1.ok.fresh hL
  refine ⟨fun i m H' => m = ds.length - i ∧ i ≤ ds.length ∧ ∃ w' acc xs, w'.H = H' ∧ w'.hd = upd w1.hd L (.lst xs) ∧ w'.ln = w1.ln ∧ Kp w1 w' ∧ Ok K w' ∧ RpL K w' acc xs ∧ compi2 g tt ti1 g1 tt1 te (wipeD ρ vs) vs1 (ds.drop i) acc w'.M Q',
    ⟨ds.length, by simp, Nat.zero_le _, mk w1 L [], [], [], rfl, rfl, rfl, kp_mk b1.ok (.inl hL), ok_mk b1.ok (.inl hL), rfl, by rw [List.drop_zero]; exact q⟩, ?_⟩
  rintro i m H' ⟨rfl, hi, w', acc, xs, rfl, hhd, hln, kp', ok', racc, hf⟩
  have hdL : w'.hd L = some (.lst xs) := by rw [hhd]; exact upd_same
  obtain ⟨hgo, hst⟩ := it w' kp' ok'
  by_cases hlt : i < ds.length
  · right
    have e0 : ds.drop i = ds[i] :: ds.drop (i + 1) := List.drop_eq_getElem_cons hlt
    have e1 : ds[i]? = some ds[i] := List.getElem?_eq_getElem hlt
    rw [e0] at hf
    obtain ⟨g1', g2⟩ := hgo i _ e1
    refine ⟨g1', fun H2 => ∃ w2 acc2 xs2, w2.H = H2 ∧ w2.hd = upd w1.hd L (.lst xs2) ∧ w2.ln = w1.ln ∧ Kp w1 w2 ∧ Ok K w2 ∧ RpL K w2 acc2 xs2 ∧ compi2 g tt ti1 g1 tt1 te (wipeD ρ vs) vs1 (ds.drop (i + 1)) acc2 w2.M Q', fun H2 ⟨w2, acc2, xs2, h1, h2, h3, h4, h5, h6, h7⟩ => ⟨ds.length - (i + 1), by omega, rfl, hlt, w2, acc2, xs2, h1, h2, h3, h4, h5, h6, h7⟩, fun x H'' y => ?_⟩
    obtain ⟨b2, r2⟩ := g2 x H'' y
    have at2 : At K (w'.at H'') (w'.at H'') (wipeD ρ vs) (wipe σ vs) := ⟨Kp.refl _, ((a1.re.wipe vs).mono kp').mono b2.kp, b2.ok, rfl, rfl⟩
    have cl2 : SC c (w'.at H'') := ((a1.kp.trans kp').trans b2.kp).sc
    refine ⟨w'.at H'', cl2, ds[i], wipeD ρ vs, w'.at H'', _, rfl, at2, r2, hf, fun ρ3 w3 σ3 q3 b3 a3 g3 => ?_⟩
    have hag : Ag vs (wipe σ vs) σ3 := ⟨g3.1, fun j hj => g3.2 j (fun z => hj (hsub j z))⟩
    refine ⟨by rw [wipe_ag hag, wipe_ag wipe_wipe], w3, cl2.trans b3.kp.sc, ρ3, w3, _, rfl, a3.self, q3, fun b w4 q4 b4 => ?_⟩
    have b24 : Bh K w' w4 := (b2.trans b3).trans b4
    have sc4 : SC c w4 := (cl2.trans b3.kp.sc).trans b4.kp.sc
    cases b with
    | false => exact iteF ⟨w4, acc, xs, rfl, b24.hd.trans hhd, b24.ln.trans hln, kp'.trans b24.kp, b24.ok, racc.mono b24.kp, q4⟩
    | true =>
      refine iteT ⟨w4, sc4, ρ3, w4, _, rfl, (a3.next b4).self, q4, fun es w5 J1 q5 b5 it1 => ?_⟩
      have b25 : Bh K w' w5 := b24.trans b5
      have re5 : RE K w5 ρ3 σ3 := ((a3.next b4).next b5).re
      refine ⟨fun j m H' => m = es.length - j ∧ j ≤ es.length ∧ ∃ w6 acc xs, w6.H = H' ∧ w6.hd = upd w1.hd L (.lst xs) ∧ w6.ln = w1.ln ∧ Kp w5 w6 ∧ Ok K w6 ∧ RpL K w6 acc xs ∧ compi2i g1 tt1 te ρ3 vs1 (es.drop j) acc w6.M (fun acc' M4 => compi2 g tt ti1 g1 tt1 te (wipeD ρ vs) vs1 (ds.drop (i + 1)) acc' M4 Q'),
        ⟨es.length, by simp, Nat.zero_le _, w5, acc, xs, rfl, b25.hd.trans hhd, b25.ln.trans hln, Kp.refl _, b25.ok, racc.mono b25.kp, by rw [List.drop_zero]; exact q5⟩, ?_⟩
      rintro j m2 H6 ⟨rfl, hj, w6, acc6, xs6, rfl, hhd6, hln6, kp6, ok6, racc6, hf6⟩
      have hdL6 : w6.hd L = some (.lst xs6) := by rw [hhd6]; exact upd_same
      obtain ⟨hgo6, hst6⟩ := it1 w6 kp6 ok6
      have kp16 : Kp w1 w6 := (kp'.trans b25.kp).trans kp6
      by_cases hlt6 : j < es.length
      · right
        have e06 : es.drop j = es[j] :: es.drop (j + 1) := List.drop_eq_getElem_cons hlt6
        have e16 : es[j]? = some es[j] := List.getElem?_eq_getElem hlt6
        rw [e06] at hf6
        obtain ⟨g16, g26⟩ := hgo6 j _ e16
        refine ⟨g16, fun H2 => ∃ w2 acc2 xs2, w2.H = H2 ∧ w2.hd = upd w1.hd L (.lst xs2) ∧ w2.ln = w1.ln ∧ Kp w5 w2 ∧ Ok K w2 ∧ RpL K w2 acc2 xs2 ∧ compi2i g1 tt1 te ρ3 vs1 (es.drop (j + 1)) acc2 w2.M (fun acc' M4 => compi2 g tt ti1 g1 tt1 te (wipeD ρ vs) vs1 (ds.drop (i + 1)) acc' M4 Q'), fun H2 ⟨w2, acc2, xs2, h1, h2, h3, h4, h5, h6, h7⟩ => ⟨es.length - (j + 1), by omega, rfl, hlt6, w2, acc2, xs2, h1, h2, h3, h4, h5, h6, h7⟩, fun x6 H7 y6 => ?_⟩
        obtain ⟨b7, r7⟩ := g26 x6 H7 y6
        have at7 : At K (w6.at H7) (w6.at H7) (wipeD ρ3 vs1) (wipe σ3 vs1) := ⟨Kp.refl _, ((re5.wipe vs1).mono kp6).mono b7.kp, b7.ok, rfl, rfl⟩
        have cl7 : SC c (w6.at H7) := ((sc4.trans b5.kp.sc).trans kp6.sc).trans b7.kp.sc
        refine ⟨w6.at H7, cl7, es[j], wipeD ρ3 vs1, w6.at H7, _, rfl, at7, r7, hf6, fun ρ8 w8 σ8 q8 b8 a8 g8 => ?_⟩
        have hag8 : Ag vs1 (wipe σ3 vs1) σ8 := ⟨g8.1, fun j hj => g8.2 j (fun z => hj (hsub1 j z))⟩
        refine ⟨by rw [wipe_ag hag8, wipe_ag wipe_wipe], w8, cl7.trans b8.kp.sc, ρ8, w8, _, rfl, a8.self, q8, fun b9 w9 q9 b9' => ?_⟩
        have b69 : Bh K w6 w9 := (b7.trans b8).trans b9'
        have sc9 : SC c w9 := (cl7.trans b8.kp.sc).trans b9'.kp.sc
        cases b9 with
        | false => exact iteF ⟨w9, acc6, xs6, rfl, b69.hd.trans hhd6, b69.ln.trans hln6, kp6.trans b69.kp, b69.ok, racc6.mono b69.kp, q9⟩
        | true =>
          refine iteT ⟨w9, sc9, ρ8, w9, _, rfl, (a8.next b9').self, q9, fun d w10 v q10 b10 r10 => ?_⟩
          have b610 : Bh K w6 w10 := b69.trans b10
          have hd10 : w10.hd L = some (.lst xs6) := by rw [b610.hd]; exact hdL6
          have r10' := racc6.mono b610.kp
          have kpm := kp_mk (xs := xs6 ++ [v]) b610.ok (.inr ⟨_, hd10⟩)
          refine ⟨xs6, b610.ok.hid L _ hd10, szlt (by rw [racc6.length]; exact q10.1), mk w10 L (xs6 ++ [v]), acc6 ++ [d], xs6 ++ [v], rfl, ?_, b610.ln.trans hln6, (kp6.trans b610.kp).trans kpm, ok_mk b610.ok (.inr ⟨_, hd10⟩), (r10'.append (RpL.one r10)).mono kpm, q10.2⟩
          show upd w10.hd L _ = _
          rw [b610.hd, hhd6, upd_upd]
      · left
        have e6 : j = es.length := by omega
        subst e6
        rw [List.drop_length] at hf6
        exact ⟨hst6, w6, acc6, xs6, rfl, hhd6, hln6, kp16, ok6, racc6, hf6⟩
  · left
    have e : i = ds.length := by omega
    subst e
    rw [List.drop_length] at hf
    refine ⟨hst, ?_⟩
    obtain ⟨kp6, ok6, f6⟩ := shown fL hhd ok'
    exact k (.lst 0 acc) { w' with hd := w1.hd } (.ref L) hf ⟨(b1.kp.trans kp').trans kp6, ok6, b1.hd, hln.trans b1.ln⟩ ⟨L, xs, rfl, LsAt.free f6 (ok'.hid L _ hdL), racc.mono kp6⟩
theorem blkI {scope : Scope} {tg iter : Expr} (hi : ∀ (c' : Wd), SC c c' → ∀ (s : Shared) (H : Hp) (C : Addr) (cl : List (Str × Addr)) (fp : List Addr), PDI c' (X.blk s H scope (compEnvC scope cl C X.env) fp) tg iter ti) :
    ∀ (s : Shared) (H : Hp) (C : Addr) (cl : List (Str × Addr)) (fp : List Addr), PI (X.blk s H scope (compEnvC scope cl C X.env) fp) tg iter (liftIB X.K c ti) := fun s H C cl fp => ⟨fun pins sh σ H' Q I ⟨c', e, q⟩ => (hi c' e s H C cl fp).run pins sh σ H' Q I q⟩
theorem pd_lc2 {elt tg iter tg1 iter1 : Expr} {ifs ifs1 : List Expr} {scope : Scope} {own : List (Str × Nat)} {us us1 : List Nat} (hc : X.calm = true) (hN : X.N.Nodup) (hi : PDI c X tg iter ti) (ok : BlkOk X.N X.env.scope scope own)
    (hg : ∀ (c' : Wd), SC c c' → ∀ (s : Shared) (H : Hp) (C : Addr) (cl : List (Str × Addr)) (fp : List Addr), PDG c' (X.blk s H scope (compEnvC scope cl C X.env) fp) us tg g) (ht : ∀ (c' : Wd), SC c c' → ∀ (s : Shared) (H : Hp) (C : Addr) (cl : List (Str × Addr)) (fp : List Addr), PDTs c' (X.blk s H scope (compEnvC scope cl C X.env) fp) ifs tt)
    (hi1 : ∀ (c' : Wd), SC c c' → ∀ (s : Shared) (H : Hp) (C : Addr) (cl : List (Str × Addr)) (fp : List Addr), PDI c' (X.blk s H scope (compEnvC scope cl C X.env) fp) tg1 iter1 ti1)
    (hg1 : ∀ (c' : Wd), SC c c' → ∀ (s : Shared) (H : Hp) (C : Addr) (cl : List (Str × Addr)) (fp : List Addr), PDG c' (X.blk s H scope (compEnvC scope cl C X.env) fp) us1 tg1 g1) (ht1 : ∀ (c' : Wd), SC c c' → ∀ (s : Shared) (H : Hp) (C : Addr) (cl : List (Str × Addr)) (fp : List Addr), PDTs c' (X.blk s H scope (compEnvC scope cl C X.env) fp) ifs1 tt1)
    (he : ∀ (c' : Wd), SC c c' → ∀ (s : Shared) (H : Hp) (C : Addr) (cl : List (Str × Addr)) (fp : List Addr), PD c' (X.blk s H scope (compEnvC scope cl C X.env) fp) elt te) (hv : ∀ i ∈ vs1, i ∈ own.map (·.2) := by decide) (hsub : ∀ i ∈ us, i ∈ own.map (·.2) := by decide) (hsub1 : ∀ i ∈ us1, i ∈ vs1 := by decide)
    (hs : ∀ x, foldedSetIterable iter X.env x = pure x := by intro _; rfl) (hs1 : ∀ env x, foldedSetIterable iter1 env x = pure x := by intro _ _; rfl) :
    PD c X (.ListComp elt [⟨tg, iter, ifs, 0⟩, ⟨tg1, iter1, ifs1, 0⟩] scope pos) (dLc2 ti g tt ti1 g1 tt1 te (own.map (·.2)) vs1) :=
  PE_imp (pe_lc2 hc hN hi ok hv (blkG hg) (blkT ht) (blkI hi1) (blkG hg1) (blkT ht1) (blkE he) hs hs1) fun σ H Q h => comp2_imp hsub hsub1 h
end
end DL
/-! The data layer, part y: dicts with tuple keys. -/
namespace DL
open PySem L2
def toKey : D → Option Key
  | .int i => some (.inl i)
  | .str x => some (.inr x)
  | _ => none
def toKeys : List D → Option (List Key)
  | [] => some []
  | d :: ds => match toKey d, toKeys ds with
    | some k, some ks => some (k :: ks)
    | _, _ => none
def toKeyT : D → Option (List Key)
  | .tup ds => toKeys ds
  | _ => none
theorem toKey_keyD (k : Key) : toKey (keyD k) = some k := by cases k <;> rfl
theorem toKeys_map : ∀ ks : List Key, toKeys (ks.map keyD) = some ks
  | [] => rfl
  | k :: ks => by rw [List.map_cons, toKeys, toKey_keyD, toKeys_map ks]
theorem toKeyT_tkeyD (ks : List Key) : toKeyT (tkeyD ks) = some ks := toKeys_map ks
theorem toKeys_eq : ∀ {ds : List D} {ks : List Key}, toKeys ds = some ks → ds = ks.map keyD
  | [], ks, h => by cases h; rfl
  | d :: ds, ks, h => by
    unfold toKeys at h
    cases e1 : toKey d with
    | none => rw [e1] at h; cases h
    | some k =>
      cases e2 : toKeys ds with
      | none => rw [e1, e2] at h; cases h
      | some l =>
        rw [e1, e2] at h
        cases h
        rw [List.map_cons, toKeys_eq e2]
        congr 1
        cases d <;> cases e1 <;> rfl
/-- what a dict with tuple keys holds -/
def lkT (kvs : List (D × D)) (k : List Key) : Option D := (kvs.find? fun p => decide (toKeyT p.1 = some k)).map (·.2)
theorem lkT_map (l : List (List Key × D)) (k : List Key) : lkT (l.map fun p => (tkeyD p.1, p.2)) k = (l.find? fun p => decide (p.1 = k)).map (·.2) := by
  unfold lkT
  induction l with
  | nil => rfl
  | cons p l ih =>
    rw [List.map_cons, List.find?_cons, List.find?_cons]
    simp only [toKeyT_tkeyD, Option.some.injEq]
    by_cases h : p.1 = k
    · simp [h]
    · simp only [h, decide_false]; exact ih
theorem keyD_inj {k l : Key} (h : keyD k = keyD l) : k = l := by
  have := toKey_keyD k; rw [h, toKey_keyD] at this; exact (Option.some.inj this).symm
theorem keys_rp {K : PySem.W.Frag} {w : Wd} : ∀ {ks : List Key} {vs : List V}, RpL K w (ks.map keyD) vs → vs = ks.map kV
  | [], vs, r => r
  | k :: ks, vs, r => by
    obtain ⟨x, q, rfl, r1, r2⟩ := r
    rw [keys_rp r2, List.map_cons]
    congr 1
    cases k <;> exact r1
theorem lk_rp {K : PySem.W.Frag} {w : Wd} {k : List Key} : ∀ {kvs : List (D × D)} {ks : List (List Key × V)}, RpK K w kvs (ks.map fun p => (tkeyD p.1, p.2)) → (∀ d, lkT kvs k = some d → ∃ v, valV ks k = some v ∧ Rp K w d v) ∧ (lkT kvs k = none → valV ks k = none)
  | [], ks, r => by
    have e : (ks.map fun p => (tkeyD p.1, p.2)) = [] := r
    have e : ks = [] := List.map_eq_nil_iff.mp e
    subst e
    exact ⟨fun d h => by simp [lkT] at h, fun _ => rfl⟩
  | (q, d) :: kvs, ks, r => by
    obtain ⟨x, rest, e, r1, r2⟩ := r
    cases ks with
    | nil => cases e
    | cons p ks =>
      injection e with e1 e2
      injection e1 with e3 e4
      subst e2 e4
      rw [← e3]
      obtain ⟨h1, h2⟩ := lk_rp (k := k) r2
      unfold lkT valV at h1 h2 ⊢
      by_cases hk : p.1 = k
      · simp only [List.find?_cons, toKeyT_tkeyD, hk, decide_true, Option.map_some, Option.some.injEq]
        exact ⟨fun d' hd => ⟨p.2, rfl, by rw [← hd]; exact r1⟩, fun hd => by cases hd⟩
      · simp only [List.find?_cons, toKeyT_tkeyD, Option.some.injEq, hk, decide_false]
        exact ⟨h1, h2⟩
section
variable {X : Cx} {pins : List (Addr × Obj)} {σ : St} {H : Hp} {s : Shared} {a b : Addr} {v : V} {A : Around} {E : Value → Shared → Prop} {kvs : List (List Key × V)} {k : List Key}
theorem key_sq (I : Inv X pins σ H s) (e : SqT X.K H b (k.map kV)) : (tupleKind (mixKind X.prog X.w)).is s.heap k b := by
  obtain ⟨its, r, ⟨o, h1, h2, n, h3⟩, _⟩ := I.tuple e
  exact ⟨o, its.toArray, n, h1, h2, h3, by simpa using items_are r⟩
theorem dT_getItem {Q : Value → Shared → Prop} (hu : A.units + 1 < cLine) (I : Inv X pins σ H s) (e : Rd H a (.dT kvs)) (eb : SqT X.K H b (k.map kV)) (l : valV kvs k = some v) (h : ∀ w' s', Inv X pins σ H s' → RelV v w' → Q w' s') :
    wpAny (model X.prog X.w) A (getItem (.ref a) (.ref b)) Q E s := by
  obtain ⟨z, hd, xs, rel, dd⟩ := dt_rd I.hok e
  obtain ⟨w', hw, rw'⟩ := RelO.some_of (v := v) (o := (atKey xs k).map (·.2)) (by rw [← l]; exact rel.val k)
  obtain ⟨p, hp, hp2⟩ := Option.map_eq_some_iff.mp hw
  refine wpAny_getItem_heap (tupleKind_room_in1 hu) (key_sq I eb) dd hp ?_
  rw [hp2]
  exact h w' _ (I.tok _) rw'
theorem dT_in {Q : Value → Shared → Prop} (hu : A.units + 1 < cLine) (I : Inv X pins σ H s) (e : Rd H a (.dT kvs)) (eb : SqT X.K H b (k.map kV)) (h : ∀ s', Inv X pins σ H s' → Q (.bool (valV kvs k).isSome) s') :
    wpAny (model X.prog X.w) A (compareOp .In (.ref b) (.ref a)) Q E s := by
  obtain ⟨z, hd, xs, rel, dd⟩ := dt_rd I.hok e
  refine wpAny_in_heap (tupleKind_room_in1 hu) (key_sq I eb) hd dd ?_
  have q := (rel.val k).isSome_eq
  rw [Option.isSome_map] at q
  rw [← q]
  exact h _ (I.tok _)
theorem dT_notIn {Q : Value → Shared → Prop} (hu : A.units + 1 < cLine) (I : Inv X pins σ H s) (e : Rd H a (.dT kvs)) (eb : SqT X.K H b (k.map kV)) (h : ∀ s', Inv X pins σ H s' → Q (.bool (!(valV kvs k).isSome)) s') :
    wpAny (model X.prog X.w) A (compareOp .NotIn (.ref b) (.ref a)) Q E s := by
  obtain ⟨z, hd, xs, rel, dd⟩ := dt_rd I.hok e
  refine PyProof.Rows.wpAny_notIn_heap (tupleKind_room_in1 hu) (key_sq I eb) hd dd ?_
  have q := (rel.val k).isSome_eq
  rw [Option.isSome_map] at q
  rw [← q]
  exact h _ (I.tok _)
end
/-! ### over data -/
def isTk (d : D) : Bool := (toKeyT d).isSome
/-- the pairs of y, a dict with tuple keys -/
def dctT (y : D) (M : Mu) : Option (List (D × D)) := match y with
  | .dct kvs => if kvs ≠ [] ∧ kvs.all (fun p => isTk p.1) = true then some kvs else none
  | .ref a => (match M a with | some (.dT kvs) => some (kvs.map fun p => (tkeyD p.1, p.2)) | _ => none)
  | _ => none
theorem isTk_keyD (k : Key) : isTk (keyD k) = false := by cases k <;> rfl
theorem dctT_at {K : PySem.W.Frag} {w : Wd} {y : D} {v : V} {kvs : List (D × D)} (o : Ok K w) (r : Rp K w y v) (h : dctT y w.M = some kvs) : ∃ a ks, v = .ref a ∧ Rd w.H a (.dT ks) ∧ RpK K w kvs (ks.map fun p => (tkeyD p.1, p.2)) := by
  unfold dctT at h
  cases y with
  | dct l =>
    simp only at h
    split at h
    · rename_i hc
      have h' : l = kvs := Option.some.inj h
      subst h'
      clear h
      obtain ⟨a, rfl, f, ⟨ks, hs, r2⟩ | ⟨ks, hs, r2⟩⟩ := r
      · exfalso
        cases l with
        | nil => exact hc.1 rfl
        | cons p l =>
          obtain ⟨q, d⟩ := p
          obtain ⟨x, rest, e, r1, r3⟩ := r2
          cases ks with
          | nil => cases e
          | cons kk ks =>
            injection e with e1 e2
            injection e1 with e3 e4
            have := hc.2
            rw [List.all_cons, Bool.and_eq_true] at this
            rw [← e3, isTk_keyD] at this
            cases this.1
      · obtain ⟨u, e1, e2⟩ := hs
        refine ⟨a, ks, rfl, ?_, r2⟩
        unfold unl at e2
        split at e2
        · cases e2
        · cases e2; exact .inr ⟨_, e1⟩
        · cases e2; exact .inl e1
    · cases h
  | ref a =>
    obtain rfl : v = .ref a := r
    simp only at h
    cases em : w.M a with
    | none => rw [em] at h; cases h
    | some m =>
      rw [em] at h
      cases m with
      | dT l =>
        cases h
        obtain ⟨ks, h1, h2, h3⟩ := (show ∃ ks, w.H a = some (.dT ks) ∧ RpK K w (l.map fun p => (tkeyD p.1, p.2)) (ks.map fun p => (tkeyD p.1, p.2)) ∧ ks.map (·.1) = l.map (·.1) from o.mo a _ em)
        exact ⟨a, ks, rfl, .inl h1, h2⟩
      | _ => cases h
  | _ => cases h
@[simp] def inE : D2 := fun x y M Q => match dctT y M with
  | some kvs => (match toKeyT x with | some k => Q (.bl (lkT kvs k).isSome) M | none => False)
  | none => inD x y M Q
@[simp] def ninE : D2 := fun x y M Q => match dctT y M with
  | some kvs => (match toKeyT x with | some k => Q (.bl (!(lkT kvs k).isSome)) M | none => False)
  | none => ninD x y M Q
@[simp] def ixE : D2 := fun x y M Q => match dctT x M with
  | some kvs => (match toKeyT y with | some k => (match lkT kvs k with | some d => Q d M | none => False) | none => False)
  | none => ixD x y M Q
section
variable {X : Cx} {c : Wd} {e a b o i : Expr} {es : List Expr} {te ta tb : DE} {tl : DA} {pos p apos : Pos} {vs : List Nat}
theorem key_at {K : PySem.W.Frag} {w : Wd} {x : D} {v : V} {k : List Key} (r : Rp K w x v) (h : toKeyT x = some k) : ∃ b, v = .ref b ∧ SqT K w.H b (k.map kV) := by
  cases x with
  | tup ds =>
    obtain ⟨b, xs, rfl, l, s1⟩ := r
    have e := toKeys_eq h
    subst e
    rw [← keys_rp s1]
    exact ⟨b, rfl, l.sq⟩
  | _ => cases h
theorem opD_inE (hu : X.A.units + 64 < cLine) : OpD X (compareOp .In) inE := by
  intro pins s σ H x y v u Q I rx ry ⟨w, dx, dy, Q', hH, ok, r1, r2, h, k⟩
  cases ed : dctT dy w.M with
  | none => simp only [inE, ed] at h; exact opD_in pins s σ H x y v u Q I rx ry ⟨w, dx, dy, Q', hH, ok, r1, r2, h, k⟩
  | some kvs =>
    simp only [inE, ed] at h
    subst hH
    cases ek : toKeyT dx with
    | none => simp only [ek] at h
    | some kk =>
      simp only [ek] at h
      obtain ⟨ad, ks, rfl, hd, hr⟩ := dctT_at ok r2 ed
      obtain ⟨bd, rfl, hb⟩ := key_at r1 ek
      cases (show v = Value.ref bd from rx)
      cases (show u = Value.ref ad from ry)
      obtain ⟨l1, l2⟩ := lk_rp (k := kk) hr
      refine dT_in (by omega) I hd hb fun s' I' => ⟨.bl (lkT kvs kk).isSome, w.H, I', ?_, k.here ok h rfl⟩
      cases el : lkT kvs kk with
      | none => rw [l2 el]; rfl
      | some d => obtain ⟨z, e1, _⟩ := l1 d el; rw [e1]; rfl
theorem opD_ninE (hu : X.A.units + 64 < cLine) : OpD X (compareOp .NotIn) ninE := by
  intro pins s σ H x y v u Q I rx ry ⟨w, dx, dy, Q', hH, ok, r1, r2, h, k⟩
  cases ed : dctT dy w.M with
  | none => simp only [ninE, ed] at h; exact opD_nin pins s σ H x y v u Q I rx ry ⟨w, dx, dy, Q', hH, ok, r1, r2, h, k⟩
  | some kvs =>
    simp only [ninE, ed] at h
    subst hH
    cases ek : toKeyT dx with
    | none => simp only [ek] at h
    | some kk =>
      simp only [ek] at h
      obtain ⟨ad, ks, rfl, hd, hr⟩ := dctT_at ok r2 ed
      obtain ⟨bd, rfl, hb⟩ := key_at r1 ek
      cases (show v = Value.ref bd from rx)
      cases (show u = Value.ref ad from ry)
      obtain ⟨l1, l2⟩ := lk_rp (k := kk) hr
      refine dT_notIn (by omega) I hd hb fun s' I' => ⟨.bl (!(lkT kvs kk).isSome), w.H, I', ?_, k.here ok h rfl⟩
      cases el : lkT kvs kk with
      | none => rw [l2 el]; rfl
      | some d => obtain ⟨z, e1, _⟩ := l1 d el; rw [e1]; rfl
theorem dictT_type {pins : List (Addr × Obj)} {σ : St} {H : Hp} {s : Shared} {a : Addr} {kvs : List (List Key × V)} (I : Inv X pins σ H s) (e : Rd H a (.dT kvs)) : s.TypeIs (.ref a) "dict" := by
  obtain ⟨_, _, xs, _, dd⟩ := dt_rd I.hok e
  exact dd.typeIs
theorem tailD {prog : Program} {w : World} {A : Around} {E : Value → Shared → Prop} {s : Shared} {value slice : Expr} {T id : String} {Q : Value → Shared → Prop} {o i : Value}
    (hT : s.TypeIs o T) (hl : typeLookup (.type T) "__getitem__" = pure (some (.builtin id))) (hs : subscripted slice false o i = operate [o, i] (getItem o i)) (h : wpAny (model prog w) A (getItem o i) Q E s) : wpAny (model prog w) A (PyProof.Rows.subscriptTail value slice o i) Q E s := by
  unfold PyProof.Rows.subscriptTail
  refine wpAny_bind ?_
  rw [getitemInPython_of_ne hT.not_modules]
  refine wpAny_bind (wpAny_specialOf hT hl ?_)
  have fin : wpAny (model prog w) A (subscripted slice false o i) (fun r s₃ => wpAny (model prog w) A (letTemporaryGo value o r >>= fun _ => pure r) Q E s₃) E s := by
    rw [hs]
    exact wpAny_operating (wpAny_mono h (fun r s₃ h₃ => wpAny_bind (wpAny_letTemporaryGo (wpAny_pure h₃))) fun _ _ x => x)
  first
    | exact wpAny_pure (wpAny_bind fin)
    | exact wpAny_bind (wpAny_pure (wpAny_bind fin))
    | exact wpAny_bind fin
theorem ixR_E (hu : X.A.units + 64 < cLine) : IxR X (liftO X.K ixE) := by
  intro value slice pins s σ H x y v u Q I rx ry ⟨w, dx, dy, Q', hH, ok, r1, r2, h, k⟩ hs
  cases ed : dctT dx w.M with
  | none => simp only [ixE, ed] at h; exact ixR_D value slice pins s σ H x y v u Q I rx ry ⟨w, dx, dy, Q', hH, ok, r1, r2, h, k⟩ hs
  | some kvs =>
    simp only [ixE, ed] at h
    subst hH
    cases ek : toKeyT dy with
    | none => simp only [ek] at h
    | some kk =>
      simp only [ek] at h
      obtain ⟨ad, ks, rfl, hd, hr⟩ := dctT_at ok r1 ed
      obtain ⟨bd, rfl, hb⟩ := key_at r2 ek
      cases (show v = Value.ref ad from rx)
      cases (show u = Value.ref bd from ry)
      obtain ⟨l1, l2⟩ := lk_rp (k := kk) hr
      cases el : lkT kvs kk with
      | none => simp only [el] at h
      | some d =>
        simp only [el] at h
        obtain ⟨z, e1, e2⟩ := l1 d el
        refine tailD (dictT_type I hd) PySem.F.slot_dict_getitem.lookup hs (dT_getItem (by omega) I hd hb e1 fun w' s' I' rw' => ⟨z, w.H, I', rw', k.here ok h e2⟩)
theorem pd_ixE (hu : X.A.units + 64 < cLine) (ha : PD c X a ta) (hb : PD c X b tb) (hs : PlainIx b := by exact fun _ _ => rfl) : PD c X (.Subscript a b pos) (dOp ixE ta tb) := PE_imp (pe_ix (ixR_E hu) ha hb hs) fun _ _ _ ⟨_, _, _, hH, a, h, k⟩ => op_imp hH a h k
/-! ### {}, d[..] = v -/
@[simp] def dDictT : DE := fun ρ M Q => ∀ a, M a = none → Q (.ref a) (setM M a (.dT []))
theorem pd_dictT : PD c X (.Dict [] [] pos) dDictT := PE_imp pe_dnewT fun σ H Q ⟨ρ, w, Q', hH, a, h, k⟩ p hp => by
  subst hH
  exact k (.ref p) { w with M := setM w.M p (.dT []), H := upd w.H p (.dT []) } (.ref p) (h p (a.ok.fresh hp).m) (Bh.newOwn a.ok hp fun w' e k' => ⟨[], e, rfl, rfl⟩) rfl
def putT (kvs : List (List Key × D)) (k : List Key) (d : D) : List (List Key × D) := if kvs.any (fun p => decide (p.1 = k)) then kvs.map (fun p => if p.1 = k then (p.1, d) else p) else kvs ++ [(k, d)]
theorem putT_keys (kvs : List (List Key × D)) (k : List Key) (d : D) : (putT kvs k d).map (·.1) = if kvs.any (fun p => decide (p.1 = k)) then kvs.map (·.1) else kvs.map (·.1) ++ [k] := by
  unfold putT
  split
  · rw [List.map_map]
    refine List.map_congr_left fun p _ => ?_
    simp only [Function.comp]
    split <;> rfl
  · simp
theorem putK_keys (kvs : List (List Key × V)) (k : List Key) (v : V) : (putK kvs k v).map (·.1) = if kvs.any (fun p => decide (p.1 = k)) then kvs.map (·.1) else kvs.map (·.1) ++ [k] := by
  unfold putK
  split
  · rw [List.map_map]
    refine List.map_congr_left fun p _ => ?_
    simp only [Function.comp]
    split <;> rfl
  · simp
theorem rpK_app {K : PySem.W.Frag} {w : Wd} {q : D} {d : D} {v : V} (h : Rp K w d v) : ∀ {ds : List (D × D)} {vs : List (D × V)}, RpK K w ds vs → RpK K w (ds ++ [(q, d)]) (vs ++ [(q, v)])
  | [], vs, r => by obtain rfl : vs = [] := r; exact ⟨v, [], rfl, h, rfl⟩
  | (k, x) :: ds, vs, r => by
    obtain ⟨y, rest, rfl, r1, r2⟩ := r
    exact ⟨y, rest ++ [(q, v)], rfl, r1, rpK_app h r2⟩
theorem rpK_set {K : PySem.W.Frag} {w : Wd} {k : List Key} {d : D} {v : V} (h : Rp K w d v) : ∀ {kvs : List (List Key × D)} {ks : List (List Key × V)}, RpK K w (kvs.map fun p => (tkeyD p.1, p.2)) (ks.map fun p => (tkeyD p.1, p.2)) → ks.map (·.1) = kvs.map (·.1) →
    RpK K w ((kvs.map fun p => if p.1 = k then (p.1, d) else p).map fun p => (tkeyD p.1, p.2)) ((ks.map fun p => if p.1 = k then (p.1, v) else p).map fun p => (tkeyD p.1, p.2))
  | [], ks, r, e => by
    have : ks = [] := List.map_eq_nil_iff.mp e
    subst this; exact rfl
  | p :: kvs, ks, r, e => by
    cases ks with
    | nil => cases e
    | cons q ks =>
      rw [List.map_cons, List.map_cons] at e
      injection e with e1 e2
      obtain ⟨y, rest, er, r1, r2⟩ := r
      rw [List.map_cons] at er
      injection er with er1 er2
      injection er1 with _ er3
      subst er2 er3
      have ih := rpK_set (k := k) h r2 e2
      simp only [List.map_cons]
      rw [← e1]
      by_cases hk : q.1 = k
      · rw [if_pos hk, if_pos hk]; exact ⟨v, _, rfl, h, ih⟩
      · rw [if_neg hk, if_neg hk]; exact ⟨q.2, _, by rw [e1], r1, ih⟩
theorem any_keys {α β : Type} {k : List Key} {l : List (List Key × α)} {m : List (List Key × β)} (e : l.map (·.1) = m.map (·.1)) : l.any (fun p => decide (p.1 = k)) = m.any (fun p => decide (p.1 = k)) := by
  have h : ∀ {γ : Type} (x : List (List Key × γ)), x.any (fun p => decide (p.1 = k)) = (x.map (·.1)).any (fun q => decide (q = k)) := fun x => by rw [List.any_map]; rfl
  rw [h l, h m, e]
/-- o[e, ..] = .., an owned dict with tuple keys -/
@[simp] def gIxP (to : DE) (tl : DA) : DG := fun d ρ M Q => to ρ M fun x M1 => tl ρ M1 fun ks M2 => match x, toKeys ks with
  | .ref a, some k => (match M2 a with | some (.dT kvs) => kvs.length < 90000 ∧ ks.length ≤ 100000 ∧ Q ρ (setM M2 a (.dT (putT kvs k d))) | _ => False)
  | _, _ => False
theorem pdg_ixP {to : DE} {x1 : Nat} {ip : Pos} (hu : X.A.units + 64 < cLine) (ho : PD c X o to) (hi : PDA c X es tl)
    (ha : ∀ v, assign (.Subscript o (.Tuple es x1 ip) pos) X.env v = (do
      let ov ← holding [v] (eval o X.env)
      let iv ← holding [v, ov] (eval (.Tuple es x1 ip) X.env)
      standAt pos
      holding [v, ov, iv] (setItem ov iv v)
      release [v, ov, iv] []) := by intro _; rfl) : PDG c X vs (.Subscript o (.Tuple es x1 ip) pos) (gIxP to tl) :=
  PG_imp (pg_sub ho (pe_tup hi) (set_dict (by omega)) ha) fun v σ H Q ⟨d, ρ, w, Q', hH, a, r, h, k⟩ => ⟨ρ, w, _, hH, a, h, fun x w1 vx q b1 r1 => ⟨ρ, w1, _, rfl, a.next b1, q, fun ks w2 vks q2 b2 r2 => by
    cases ek : toKeys ks with
    | none => simp only [ek] at q2; try exact q2.elim
    | some kk =>
      simp only [ek] at q2
      cases x with
      | ref l =>
        obtain rfl : vx = .ref l := r1
        cases em : w2.M l with
        | none => simp only [em] at q2
        | some m =>
          cases m with
          | dT kvs =>
            simp only [em] at q2
            obtain ⟨hz, hz2, q2⟩ := q2
            have e := toKeys_eq ek
            subst e
            have ev := keys_rp r2
            subst ev
            refine ⟨sz (by rw [r2.length]; exact hz2), fun p hp => ?_⟩
            obtain ⟨ls, hl, hr, hk⟩ := (show ∃ ks, w2.H l = some (.dT ks) ∧ RpK X.K w2 (kvs.map fun p => (tkeyD p.1, p.2)) (ks.map fun p => (tkeyD p.1, p.2)) ∧ ks.map (·.1) = kvs.map (·.1) from b2.ok.mo l _ em)
            have b3 : Bh X.K w2 (w2.at (upd w2.H p (.tup (kk.map kV)))) := Bh.new b2.ok hp
            have hl3 : upd w2.H p (.tup (kk.map kV)) l = some (.dT ls) := by rw [upd_ne (ne_of_none hl hp)]; exact hl
            have hlen : ls.length = kvs.length := by have := congrArg List.length hk; simpa using this
            refine ⟨l, _, rfl, DPut.t hl3 upd_same (szlt (by omega)), ?_⟩
            have em3 : (w2.at (upd w2.H p (.tup (kk.map kV)))).M l = some (.dT kvs) := em
            have b4 := Bh.own (u := .dT (putK ls kk v)) (m' := .dT (putT kvs kk d)) b3.ok em3 fun w' e k' => by
              refine ⟨putK ls kk v, e, ?_, ?_⟩
              · have hr' := hr.mono (b3.kp.trans k')
                have rd := ((r.mono b1.kp).mono b2.kp).mono (b3.kp.trans k')
                unfold putK putT
                rw [any_keys hk]
                split
                · exact rpK_set rd hr' hk
                · rw [List.map_append, List.map_append]; exact rpK_app rd hr'
              · rw [putT_keys, putK_keys, any_keys hk, hk]
            have b14 := (b1.trans b2).trans (b3.trans b4)
            exact k ρ { (w2.at (upd w2.H p (.tup (kk.map kV)))) with M := setM w2.M l (.dT (putT kvs kk d)), H := upd (upd w2.H p (.tup (kk.map kV))) l (.dT (putK ls kk v)) } σ q2 b14 (a.next b14) (Ag.refl _ _)
          | _ => simp only [em] at q2
      | _ => exact q2.elim⟩⟩
end
end DL
/-! The data layer, part z: more of texts, displays, targets. -/
namespace DL
open PySem L2
section
variable {X : Cx} {c : Wd} {e o : Expr} {es : List Expr} {te ta tb : DE} {tl : DA} {pos p apos : Pos}
/-! ### texts -/
@[simp] def splitD : DM1 := fun a y M Q => match y with
  | .str b => (b.length == 0) = false ∧ a.length ≤ 100000 ∧ Q (.lst 0 ((Txt.split a b).map D.str)) M
  | _ => False
theorem strsD_rp {K : PySem.W.Frag} {w : Wd} : ∀ zs : List Str, RpL K w (zs.map D.str) (zs.map V.str)
  | [] => rfl
  | z :: zs => ⟨.str z, _, rfl, rfl, strsD_rp zs⟩
theorem split_D : MtR X "str.split" (liftM1 X.K splitD) := by
  intro pins s σ H x xs v us Q I rx rs ⟨w, a, y, vy, Q', hH, e1, e2, ok, r, h, k⟩
  subst hH e1 e2
  cases y with
  | str b =>
    obtain rfl : vy = .str b := r
    have hz : 100002 ≤ sizeLine := by decide
    have h1 := h.2.1
    exact mt_split pins s σ _ _ _ v us Q I rx rs ⟨a, b, rfl, rfl, h.1, by omega, fun q hq => k.new ok hq h.2.2 (rp_lst ok hq (strsD_rp _))⟩
  | _ => exact False.elim h
theorem pd_split (ho : PD c X o ta) (he : PD c X e tb) (hs : starEach [e] X.env = [(false, eval e X.env)] := by rfl) (hbase : attributeBase o "split" X.env (eval o X.env) = eval o X.env := by rfl) (hline : (apos.endLine == pos.line) = true := by rfl) :
    PD c X (.Call (.Attribute o "split" apos) [e] [] pos) (dM1 splitD ta tb) := pd_m1 F.slot_str_split F.type_str_split split_D ho he hs hbase hline
@[simp] def countD : DM1 := fun a y M Q => match y with
  | .str b => Q (.int (Txt.count a b)) M
  | _ => False
theorem count_D : MtR X "str.count" (liftM1 X.K countD) := by
  intro pins s σ H x xs v us Q I rx rs ⟨w, a, y, vy, Q', hH, e1, e2, ok, r, h, k⟩
  subst hH e1 e2
  cases y with
  | str b =>
    obtain rfl : vy = .str b := r
    exact mt_count pins s σ _ _ _ v us Q I rx rs ⟨a, b, rfl, rfl, k.here ok h rfl⟩
  | _ => exact False.elim h
theorem pd_count (ho : PD c X o ta) (he : PD c X e tb) (hs : starEach [e] X.env = [(false, eval e X.env)] := by rfl) (hbase : attributeBase o "count" X.env (eval o X.env) = eval o X.env := by rfl) (hline : (apos.endLine == pos.line) = true := by rfl) :
    PD c X (.Call (.Attribute o "count" apos) [e] [] pos) (dM1 countD ta tb) := pd_m1 F.slot_str_count F.type_str_count count_D ho he hs hbase hline
@[simp] def endswithD : DM1 := fun a y M Q => match y with
  | .str b => Q (.bl (Txt.endswith a b)) M
  | _ => False
theorem endswith_D : MtR X "str.endswith" (liftM1 X.K endswithD) := by
  intro pins s σ H x xs v us Q I rx rs ⟨w, a, y, vy, Q', hH, e1, e2, ok, r, h, k⟩
  subst hH e1 e2
  cases y with
  | str b =>
    obtain rfl : vy = .str b := r
    exact mt_endswith pins s σ _ _ _ v us Q I rx rs ⟨a, b, rfl, rfl, k.here ok h rfl⟩
  | _ => exact False.elim h
theorem pd_endswith (ho : PD c X o ta) (he : PD c X e tb) (hs : starEach [e] X.env = [(false, eval e X.env)] := by rfl) (hbase : attributeBase o "endswith" X.env (eval o X.env) = eval o X.env := by rfl) (hline : (apos.endLine == pos.line) = true := by rfl) :
    PD c X (.Call (.Attribute o "endswith" apos) [e] [] pos) (dM1 endswithD ta tb) := pd_m1 F.slot_str_endswith F.type_str_endswith endswith_D ho he hs hbase hline
/-! ### * of texts, tuples -/
def repS (x : Str) (n : Nat) : Str := ⟨(List.replicate n x.cps).foldl (· ++ ·) #[]⟩
theorem repS_0 {x : Str} : repS x 0 = Str.empty := rfl
@[simp] def mulE : D2 := fun x y M Q => match x with
  | .str a => (match y with | .int n => 0 ≤ n ∧ n ≤ 1000 ∧ a.length ≤ 100 ∧ Q (.str (repS a n.toNat)) M | _ => False)
  | .tup a => (match y with | .int n => a ≠ [] ∧ 2 ≤ n ∧ n ≤ 1000 ∧ a.length ≤ 1000 ∧ Q (.tup (List.replicate n.toNat a).flatten) M | _ => False)
  | x => mulD x y M Q
theorem post_str {z : Str} {Q : Value → Shared → Prop} {s : Shared} (h1 : z.length ≤ sizeLine) (h2 : Q (.str z s.toks) { s with toks := s.toks + 1 }) : (Made.str z).post Q s := ⟨h1, h2⟩
theorem foldl_one (x : Array Nat) : List.foldl (· ++ ·) #[] [x] = x := by simp
theorem opD_mulE : OpD X (binaryOp .Mult) mulE := by
  intro pins s σ H x y v u Q I rx ry ⟨w, dx, dy, Q', hH, ok, r1, r2, h, k⟩
  cases dx <;> first | exact opD_mul pins s σ H x y v u Q I rx ry ⟨w, _, dy, Q', hH, ok, r1, r2, h, k⟩ | skip
  case tup a =>
    cases dy <;> first | exact False.elim h | skip
    rename_i n
    subst hH
    obtain ⟨q, xs, rfl, l1, s1⟩ := r1; obtain rfl : y = .int n := r2
    refine op_repT pins s σ _ _ _ v u Q I rx ry ⟨q, n, xs, rfl, rfl, l1.sq, fun z => ?_, h.2.1, h.2.2.1, by rw [s1.length]; exact h.2.2.2.1, fun q2 hq => ?_⟩
    · subst z
      have := s1.length
      exact h.1 (List.length_eq_zero_iff.mp this.symm)
    · exact k.new ok hq h.2.2.2.2 (rp_tup ok hq (rp_flat s1 n.toNat))
  case str a =>
    cases dy <;> first | exact False.elim h | skip
    rename_i n
    subst hH
    obtain rfl : x = .str a := r1; obtain rfl : y = .int n := r2
    obtain ⟨t, rfl⟩ := rx
    obtain ⟨t2, rfl⟩ := ry
    obtain ⟨h0, h1, h2, h⟩ := h
    have hb : ¬ ((a.length : Int) > (2 ^ 63 - 1) / n) ∨ n < 1 := by
      by_cases hn : n < 1
      · exact .inr hn
      · left
        have : (1000 : Int) ≤ (2 ^ 63 - 1) / n := by
          rw [Int.le_ediv_iff_mul_le (by omega)]; omega
        omega
    refine P.mul_str (by simp; omega) (fun hn _ => hb.resolve_right hn) (fun hn _ => ?_) ?_
    · unfold Builtin.Str.tooLong
      have : a.length * n.toNat ≤ 100 * 1000 := Nat.mul_le_mul h2 (by omega)
      have e : (100001 : Nat) ≤ sizeLine := by decide
      simp only [decide_eq_false_iff_not]
      omega
    · have len : ∀ m : Nat, (repS a m).length = a.length * m := by
        intro m
        induction m with
        | zero => rfl
        | succ m ih =>
          have : repS a (m + 1) = ⟨(repS a m).cps ++ a.cps⟩ := by
            unfold repS
            rw [List.replicate_succ', List.foldl_append]; rfl
          rw [this]
          show ((repS a m).cps ++ a.cps).size = _
          rw [Array.size_append]
          have ih' : (repS a m).cps.size = a.length * m := ih
          rw [ih', Nat.mul_succ]; rfl
      by_cases hn : n < 1
      · have e : n = 0 := by omega
        subst e
        simp only [show ((0 : Int) < 1) from by decide, if_true]
        exact ⟨by decide, .str _, w.H, I.tok _, ⟨_, rfl⟩, k.here ok h rfl⟩
      · rw [if_neg hn]
        by_cases h3 : (n == 1 || a.length == 0) = true
        · rw [if_pos h3]
          have e : repS a n.toNat = a := by
            rcases Bool.or_eq_true_iff.mp h3 with z | z
            · have : n = 1 := by simpa using z
              subst this
              unfold repS; simp
            · have z' : a.length = 0 := by simpa using z
              have z2 : (repS a n.toNat).length = 0 := by rw [len, z', Nat.zero_mul]
              cases ha : repS a n.toNat with
              | mk q =>
                cases a with
                | mk q2 =>
                  rw [ha] at z2
                  have e1 : q = #[] := Array.size_eq_zero_iff.mp z2
                  have e2 : q2 = #[] := Array.size_eq_zero_iff.mp z'
                  rw [e1, e2]
          rw [e] at h
          exact ⟨.str a, w.H, I, ⟨t, rfl⟩, k.here ok h rfl⟩
        · rw [if_neg h3]
          refine post_str (z := repS a n.toNat) ?_ ⟨.str (repS a n.toNat), w.H, I.tok _, ⟨_, rfl⟩, k.here ok h rfl⟩
          have := len n.toNat
          have : a.length * n.toNat ≤ 100 * 1000 := Nat.mul_le_mul h2 (by omega)
          have e : (100001 : Nat) ≤ sizeLine := by decide
          show (repS a n.toNat).length ≤ _
          first | omega | skip
/-! ### [*x, ..] -/
@[simp] def dStar (te : DE) (tl : DA) : DA := fun ρ M Q => te ρ M fun d M1 => match d with
  | .lst _ xs => tl ρ M1 fun ys M2 => Q (xs ++ ys) M2
  | .tup xs => tl ρ M1 fun ys M2 => Q (xs ++ ys) M2
  | _ => False
theorem pda_star (he : PD c X e te) (hr : PDA c X es tl) (hs : starEach (.Starred e p :: es) X.env = (true, eval e X.env) :: starEach es X.env := by rfl) : PDA c X (.Starred e p :: es) (dStar te tl) := PA_imp (StX.pa_star he hr hs) fun σ H Q ⟨ρ, w, Q', hH, a, h, k⟩ =>
  ⟨ρ, w, _, hH, a, h, fun d w1 v q b1 r => by
    cases d with
    | lst t xs => obtain ⟨ad, vs, rfl, l, s1⟩ := r; exact ⟨ad, vs, rfl, .inr l.sq, ρ, w1, _, rfl, a.next b1, q, fun ys w2 us q2 b2 r2 => k _ w2 _ q2 (b1.trans b2) ((s1.mono b2.kp).append r2)⟩
    | tup xs => obtain ⟨ad, vs, rfl, l, s1⟩ := r; exact ⟨ad, vs, rfl, .inl l.sq, ρ, w1, _, rfl, a.next b1, q, fun ys w2 us q2 b2 r2 => k _ w2 _ q2 (b1.trans b2) ((s1.mono b2.kp).append r2)⟩
    | _ => exact q.elim⟩
/-! ### f'..' -/
@[simp] def dFmt (te : DE) : DE := fun ρ M Q => te ρ M fun d M1 => match d with
  | .str y => y.length ≤ 100000 ∧ Q (.str y) M1
  | .int i => i.natAbs.log2 < 1920 ∧ Q (.str (toString i)) M1
  | _ => False
theorem pd_fmt (he : PD c X e te) : PD c X (.FormattedValue e (-1) none pos) (dFmt te) := PE_imp (pe_fmt he) fun σ H Q ⟨ρ, w, Q', hH, a, h, k⟩ => ⟨ρ, w, _, hH, a, h, fun d w1 v q b r => by
  cases d with
  | str y => obtain rfl : v = .str y := r; exact .inl ⟨y, rfl, sz q.1, k _ w1 _ q.2 b rfl⟩
  | int i => obtain rfl : v = .int i := r; exact .inr ⟨i, rfl, q.1, k _ w1 _ q.2 b rfl⟩
  | _ => exact q.elim⟩
def dJs : List DE → Str → DEnv → Mu → (Str → Mu → Prop) → Prop
  | [], acc, _, M, Q => Q acc M
  | t :: ts, acc, ρ, M, Q => t ρ M fun d M1 => match d with | .str y => (acc ++ y).length ≤ 100000 ∧ dJs ts (acc ++ y) ρ M1 Q | _ => False
inductive PDJ (c : Wd) (X : Cx) : List Expr → List DE → Prop where
  | nil : PDJ c X [] []
  | cons {e : Expr} {t : DE} {es : List Expr} {ts : List DE} (h : PD c X e t) (r : PDJ c X es ts) : PDJ c X (e :: es) (t :: ts)
theorem PDJ.pj {es : List Expr} {ts : List DE} (h : PDJ c X es ts) : PJ X es (ts.map (lift X.K c)) := by
  induction h with
  | nil => exact .nil
  | cons h r ih => exact .cons h ih
theorem js_imp {K : PySem.W.Frag} {σ : St} : ∀ (ts : List DE) (acc : Str) (ρ : DEnv) (w : Wd) (Q' : Str → Mu → Prop) (Q : Str → Hp → Prop), At K c w ρ σ → dJs ts acc ρ w.M Q' → (∀ z w', Q' z w'.M → Bh K w w' → Q z w'.H) → tJs (ts.map (lift K c)) acc σ w.H Q
  | [], acc, ρ, w, Q', Q, a, h, k => k acc w h (Bh.refl a.ok)
  | t :: ts, acc, ρ, w, Q', Q, a, h, k => ⟨ρ, w, _, rfl, a, h, fun d w1 v q b r => by
    cases d with
    | str y => obtain rfl : v = .str y := r; exact ⟨y, rfl, sz q.1, js_imp ts (acc ++ y) ρ w1 Q' Q (a.next b) q.2 fun z w' qz bz => k z w' qz (b.trans bz)⟩
    | _ => exact q.elim⟩
@[simp] def dJoined (ts : List DE) : DE := fun ρ M Q => dJs ts Str.empty ρ M fun z M1 => Q (.str z) M1
theorem pd_joined {v1 v2 : Expr} {rest : List Expr} {ts : List DE} (h : PDJ c X (v1 :: v2 :: rest) ts) : PD c X (.JoinedStr (v1 :: v2 :: rest) pos) (dJoined ts) := PE_imp (pe_joined h.pj) fun σ H Q ⟨ρ, w, Q', hH, a, h, k⟩ => by
  subst hH
  exact js_imp ts _ ρ w _ _ a h fun z w' q b => k _ w' _ q b rfl
/-! ### a, b, c = x, y, z -/
@[simp] def dPar3 (i j l : Nat) (ta : DA) : DS := fun D ρ M => ta ρ M fun ds M1 => match ds with | [d, e, f] => D.nx (((ρ.set i (some d)).set j (some e)).set l (some f)) M1 | _ => False
theorem pds_par3 {st : Stmt} {i j l : Nat} (h : PS X st (tPar3 i j l (liftA X.K c tl))) : PDS c X st (dPar3 i j l tl) := PS_imp h fun D σ H ⟨ρ, w, D', hH, a, h, k⟩ => ⟨ρ, w, _, hH, a, h, fun ds w1 vs q b r => by
  cases ds with
  | nil => exact q.elim
  | cons d ds =>
    cases ds with
    | nil => exact q.elim
    | cons e ds =>
      cases ds with
      | nil => exact q.elim
      | cons f ds =>
        cases ds with
        | cons _ _ => exact q.elim
        | nil =>
          obtain ⟨x, q1, rfl, r1, r⟩ := r
          obtain ⟨y, q2, rfl, r2, r⟩ := r
          obtain ⟨z, q3, rfl, r3, r4⟩ := r
          obtain rfl : q3 = [] := r4
          exact ⟨x, y, z, rfl, k.nx _ w1 _ q b ((((a.next b).set r1).set r2).set r3)⟩⟩
/-! ### *a, b = a list -/
def gStarV (K : PySem.W.Frag) (n i : Nat) (t : TGs) : TG := fun v σ H Q => ∃ a xs, v = .ref a ∧ SqL K H a xs ∧ i < n ∧ n ≤ xs.length + 1 ∧ xs.length ≤ 16384 ∧ ∀ p, H p = none → t (xs.take i ++ [.ref p] ++ (xs.drop i).drop (xs.length + 1 - n)) σ (upd H p (.lst ((xs.drop i).take (xs.length + 1 - n)))) Q
theorem pg_starV {ts ts' : List Expr} {kk : Nat} {t : TGs} {n i : Nat} (hc : X.calm = true) (h : PGs X ts' t) (he : (assignEach ts X.env).map (·.2) = (assignEach ts' X.env).map (·.2) := by rfl)
    (hn : (assignEach ts X.env).length = n := by rfl) (hst : (assignEach ts X.env).findIdx? (·.1) = some i := by rfl) : PG X (.Tuple ts kk pos) (gStarV X.K n i t) := by
  refine ⟨fun pins s σ H v u Q I r hw => ?_⟩
  obtain ⟨l, xs, e1, hq, hi, hn2, hz, hw⟩ := hw
  subst e1
  cases r
  obtain ⟨its, rv, pl, hz2⟩ := I.list hq
  have hl := pl.isList
  have hlen : its.length = xs.length := rv.length.symm
  have hlt : l ≠ s.heap.objs.size := by obtain ⟨o, ho, _⟩ := hl; exact Nat.ne_of_lt (Heap.lt_size ho)
  rw [PyProof.Rows.assign_Tuple]
  refine wpAny_bind (wpAny_standAt ?_)
  unfold unpack
  rw [hn, hst]
  refine wpAny_bind (wpAny_holding ?_)
  unfold unpackItems
  refine wpAny_bind ?_
  unfold notIterableAtAll
  refine wpAny_bind (wpAny_specialOf hl.typeIs slot_list_iter.lookup ?_)
  refine wpAny_pure ?_
  simp only [Bool.false_eq_true, if_false]
  refine wpAny_bind (wpAny_holding (wpAny_pyIter_list hl ?_))
  refine wpAny_bind (wpAny_holding (PySem.W.kun_draw hlt i 0 _ _ ⟨_, Heap.get?_push_size _ rfl, rfl, rfl⟩ (hl.push _) (by simp; omega) fun h₁ hit₁ hs₁ => ?_))
  have hl₁ : h₁.IsList l its.toArray := (hl.push _).extBut hs₁.extBut hlt
  rw [Nat.zero_add] at hit₁
  have hit₁' := hit₁
  obtain ⟨oi, hoi, _⟩ := hit₁'
  have hl₁' := hl₁
  obtain ⟨ol, hol, _⟩ := hl₁'
  simp only [List.drop_zero]
  have hfl : (its.take i).length = i := by rw [List.length_take]; omega
  rw [if_neg (show ¬ ((its.take i).length < i) by rw [hfl]; omega)]
  refine wpAny_bind (wpAny_holding (PySem.W.kun_collect (s := { s with heap := h₁ }) (items := its.toArray) (T := "list_iterator") (.inr (.inr (.inl rfl))) (Walks.list (A := X.A.in1) (I.ok.hd hc) s.heap.objs.size l hlt its.toArray) (fun j u st => st.1.typeIs) (k := i) (by simp; omega) ⟨hit₁, hl₁⟩ (Heap.lt_size hoi) (Heap.lt_size hol) (fun h₂ tk hk => ?_) (by simp; omega)))
  have hrl : (its.drop i).length = its.length - i := by rw [List.length_drop]
  have hmid : (its.drop i).length - (n - 1 - i) = xs.length + 1 - n := by rw [hrl]; omega
  show wpAny _ _ (if (its.drop i).length < n - 1 - i then _ else _) _ _ _
  rw [if_neg (by rw [hrl]; omega)]
  show wpAny _ _ (newList ((its.drop i).take ((its.drop i).length - (n - 1 - i))) >>= fun d => pure (its.take i ++ [d] ++ (its.drop i).drop ((its.drop i).length - (n - 1 - i)))) _ _ _
  rw [hmid]
  have hke : ∀ b o, s.heap.get? b = some o → h₂.get? b = some o := fun b o e => by
    have hb : b ≠ s.heap.objs.size := Nat.ne_of_lt (Heap.lt_size e)
    exact hk b o hb (hs₁.extBut b o hb (Heap.get?_push_of_some _ e))
  have I2 : Inv X pins σ H { s with heap := h₂, toks := tk } := I.kept hke
  have rm : Vals ((xs.drop i).take (xs.length + 1 - n)) ((its.drop i).take (xs.length + 1 - n)) := (rv.drop i).take _
  have hml : ((its.drop i).take (xs.length + 1 - n)).length ≤ sizeLine := by rw [List.length_take, hrl]; omega
  refine wpAny_bind (wpAny_newList ?_ hml)
  have hf : H h₂.objs.size = none := I2.hok.fresh (Nat.le_refl _)
  have I3 : Inv X pins σ (upd H h₂.objs.size (.lst ((xs.drop i).take (xs.length + 1 - n)))) { s with heap := h₂.push { cls := .type "list", data := .seq ((its.drop i).take (xs.length + 1 - n)).toArray }, toks := tk } :=
    I2.laid (t' := tk) (fun b u e => Heap.get?_push_of_some _ e) (Nat.le_refl _) ⟨by rw [rm.length]; exact hml, _, 0, rm, Heap.get?_push_size _ rfl⟩
  refine wpAny_pure ?_
  rw [he]
  have r1 : Vals [V.ref h₂.objs.size] [Value.ref h₂.objs.size] := .cons rfl .nil
  exact h.run pins _ σ _ _ _ Q I3 (((rv.take i).append r1).append ((rv.drop i).drop _)) (hw _ hf)
@[simp] def gStar (n i : Nat) (g : DGs) : DG := fun d ρ M Q => match d with
  | .lst _ ds => i < n ∧ n ≤ ds.length + 1 ∧ ds.length ≤ 16384 ∧ g (ds.take i ++ [.lst 0 ((ds.drop i).take (ds.length + 1 - n))] ++ (ds.drop i).drop (ds.length + 1 - n)) ρ M Q
  | _ => False
theorem pdg_star {ts ts' : List Expr} {kk : Nat} {g : DGs} {n i : Nat} {vs : List Nat} (hc : X.calm = true) (h : PDGs c X vs ts' g) (he : (assignEach ts X.env).map (·.2) = (assignEach ts' X.env).map (·.2) := by rfl)
    (hn : (assignEach ts X.env).length = n := by rfl) (hst : (assignEach ts X.env).findIdx? (·.1) = some i := by rfl) : PDG c X vs (.Tuple ts kk pos) (gStar n i g) :=
  PG_imp (pg_starV hc h he hn hst) fun v σ H Q ⟨d, ρ, w, Q', hH, a, r, h, k⟩ => by
    cases d with
    | lst t ds =>
      obtain ⟨p, xs, rfl, l, s1⟩ := r
      subst hH
      have hl := s1.length
      refine ⟨p, xs, rfl, l.sq, h.1, by rw [hl]; exact h.2.1, by rw [hl]; exact h.2.2.1, fun q hq => ?_⟩
      rw [hl]
      have rm := (s1.drop i).take (ds.length + 1 - n)
      have b1 : Bh X.K w (w.at (upd w.H q (.lst ((xs.drop i).take (ds.length + 1 - n))))) := Bh.new a.ok hq
      refine ⟨_, ρ, w.at (upd w.H q (.lst ((xs.drop i).take (ds.length + 1 - n)))), Q', rfl, a.next b1, ?_, h.2.2.2, fun ρ' w' σ' q' b a' g' => k ρ' w' σ' q' (b1.trans b) a' g'⟩
      exact (((s1.take i).mono b1.kp).append (RpL.one (rp_lst a.ok hq rm))).append (((s1.drop i).drop _).mono b1.kp)
    | _ => exact h.elim
end
end DL
/-! The data layer, part Na: str(o), ==, != by own defs; static methods; isinstance of own classes. -/
namespace DL
open PySem L2
section
variable {prog : Program} {w : World} {A : Around} {E : Value → Shared → Prop} {s : Shared} {K : PySem.W.Frag} {x C f : Addr} {ox : Obj} {odd : Option Obj}
theorem strOf_own {Q : Value → Shared → Prop} (hu : A.units < cLine) (X : K.In s.heap) (I : PySem.W.InstAt s.heap x ox C odd) (hs : PySem.W.findIn K (.ref C) "__str__" = some (some (.ref f))) (hf : PySem.W.isFn K (.ref f) = true)
    (h : wpAny (model prog w) A (call (.ref f) [.ref x]) (fun r s₁ => ∃ z u, r = Value.str z u ∧ Q r s₁) E s) : wpAny (model prog w) A (Builtin.Str.strOf (.ref x)) Q E s := by
  unfold Builtin.Str.strOf
  simp only [show Builtin.Str.isExactStr (.ref x) = false from rfl, Bool.false_eq_true, if_false]
  refine wpAny_bind (wpAny_cRoomFor hu ?_)
  refine wpAny_bind (m := callSpecial? (.ref x) (Str.ofString "__str__")) (PySem.W.special_fn X I hs (beq_iff_eq.mp hf) (wpAny_mono h (fun r s' hr => ?_) fun _ _ y => y))
  obtain ⟨z, u, rfl, hq⟩ := hr
  exact wpAny_pure hq
theorem str_own {Q : Value → Shared → Prop} (hu : A.units + 3 < cLine) (X : K.In s.heap) (I : PySem.W.InstAt s.heap x ox C odd) (hs : PySem.W.findIn K (.ref C) "__str__" = some (some (.ref f))) (hf : PySem.W.isFn K (.ref f) = true)
    (h : wpAny (model prog w) A.in1.in1 (call (.ref f) [.ref x]) (fun r s₁ => ∃ z u, r = Value.str z u ∧ Q r s₁) E s) : wpAny (model prog w) A (call (.type "str") [.ref x]) Q E s := by
  refine callType_codes (T := "str") (Bi := Builtin.«object.__init__») (Q₁ := fun r s₁ => ∃ z u, r = Value.str z u ∧ Q r s₁) PySem.F.called_str (PySem.F.typeCall_str_1 _) PySem.F.entry_object_init ?_ ?_
  · refine codeAny_of_tree ?_
    show wpAny _ A.in1.in1 (do checkBuiltinCall "str.__new__" ⟨[.type "str", .ref x], []⟩; again (.builtin "str.__new__" ⟨[.type "str", .ref x], []⟩)) _ _ s
    refine wpAny_bind (wpAny_of_eq (PySem.F.newCall_str_1 _) (wpAny_pure ⟨plainId_quiet (by decide +kernel) _, codeAny_builtin PySem.F.entry_str_new ?_⟩))
    rw [Around.under_plainId (by decide +kernel) _]
    rw [str_new_tree]
    refine wpAny_bind (wpAny_pure ?_)
    refine wpAny_bind (wpAny_of_eq isSubtype_str_str ?_)
    refine wpAny_bind (strOf_own ?_ X I hs hf (wpAny_mono h (fun r s₁ hr => ?_) fun _ _ y => y))
    · show A.units + 1 + 1 < cLine; omega
    · obtain ⟨z, u, rfl, hq⟩ := hr
      exact ⟨z, u, rfl, wpAny_pure ⟨z, u, rfl, hq⟩⟩
  · rintro obj s₁ ⟨n, u, rfl, hq⟩
    exact ⟨typeIs_str _ _ _, PySem.F.args_object_init_2 _ _, object_init_meets PySem.F.called_str.init.lookup PySem.F.called_str.made (by decide) prog w A.in1 _ s₁ ⟨typeIs_str _ _ _, rfl, hq⟩⟩
end
section
variable {X : Cx} {c : Wd} {e o : Expr} {es : List Expr} {te ta tb : DE} {tl : DA} {pos p apos : Pos} {n m x : Str} {cl : Str → Addr} {tb' : List (Addr × Str)} {k : Nat} {ps : List Str} {s : DSp} {E : DXK}
theorem fnR_of {P : Program} {w : World} {K : PySem.W.Frag} {mg : Str → Option Value} {base : Heap} {CX : CXT} {f : Addr} {fd : FuncData} {sp : Sp} (F : FnOk P w K mg base CX k f fd ps sp) (hb : Binds K fd ps []) : FnR P w K mg base CX k f sp :=
  (FnOk.raw F hb .nil).imp fun vs H Q E h => by rw [List.append_nil]; exact h
/-! ### str(o) -/
@[simp] def dStrO (n : Str) (s : DSp) (E : DXK) (ta : DE) : DE := fun ρ M Q => ta ρ M fun x M1 => match insF n x M1 with
  | some _ => s [x] M1 (fun d M2 => match d with | .str _ => Q d M2 | _ => False) E
  | none => False
theorem pd_strO (hcc : Cc cl tb' c) (G : Mtd X.prog X.w X.K X.mg X.base cl tb' k n "__str__" ps s) (hr : Room (k + 2) X.A) (htk : Tk c X E) (he : PD c X e te) (hg : Gl X "str") (hm : X.mg "str" = none)
    (hs : starEach [e] X.env = (false, eval e X.env) :: starEach [] X.env := by rfl) : PD c X (.Call (.Name "str" p) [e] [] pos) (dStrO n s E te) := by
  obtain ⟨f, fd, F, hb, hM, hC⟩ := G.ex
  have FR := fnR_of F hb
  have rule : CallR X (.type "str") (fun xs H Q => ∃ a dx fs, xs = [V.ref a] ∧ H a = some (.ins (cl n) dx fs) ∧ upX X.K cl tb' s [.ref a] H (fun v H' => ∃ z, v = .str z ∧ Q v H') (XKof X.K c E)) := by
    intro pins sh σ H xs us Q I r h
    obtain ⟨a, dx, fs, rfl, ha, h⟩ := h
    obtain rfl := Vals.ref1 r
    obtain ⟨mA, O, _, _, _, _⟩ := ins_get I.hok ha
    obtain ⟨od, J, _⟩ := O.look
    have hr2 : Room k X.A.in1.in1 := (show Room (k + 1) X.A.in1 from Room.in1 hr).in1
    refine str_own (by have := hr.un; omega) I.kIn J hM.at_ hM.fn (wpAny_mono (wpAny_call (SlX.run_at (us := [.ref a]) (ws := [.ref a]) FR hr2 I.env0.in1.in1 htk.pass I (.cons rfl .nil) h)) (fun w s' z => ?_) fun _ _ x => x)
    obtain ⟨z', H', I', rz, y, ey, qz⟩ := z
    subst ey
    obtain ⟨t, rfl⟩ := (show ∃ t, w = Value.str y t from rz)
    exact ⟨y, t, rfl, .str y, H', I', ⟨t, rfl⟩, qz⟩
  refine PE_imp (pe_callTy rule hg hm (by decide +kernel) (pda_cons (tl := dNil) he pda_nil hs) (by decide) (by decide) hs (by rfl)) fun σ H Q ⟨ρ, w, Q', hH, a, h, k⟩ => ?_
  refine ⟨ρ, w, (fun ds M1 => match ds with | [x] => (match insF n x M1 with | some _ => s [x] M1 (fun d M2 => match d with | .str _ => Q' d M2 | _ => False) E | none => False) | _ => False), hH, a, h, fun ds w1 vs q b r => ?_⟩
  cases ds with
  | nil => exact q.elim
  | cons d ds =>
    cases ds with
    | cons _ _ => exact q.elim
    | nil =>
      obtain ⟨v, rfl, r1⟩ := one_of r
      cases ei : insF n d w1.M with
      | none => simp only [ei] at q
      | some fs =>
        simp only [ei] at q
        obtain ⟨ad, dx, ws, rfl, h1, h2⟩ := insF_at b.ok r1 ei
        have ecl : w1.cl n = cl n := by rw [b.kp.cl, a.kp.cl, hcc.cl]
        refine ⟨ad, dx, ws, rfl, by rw [← ecl]; exact h1, w1, [d], _, E, rfl, hcc.sc (a.kp.trans b.kp).sc, b.ok, r, q, fun d2 w2 v2 q2 b2 r2 => ?_, wvX_of a b⟩
        cases d2 with
        | str z => obtain rfl : v2 = .str z := r2; exact ⟨z, rfl, k _ w2 _ q2 (b.trans b2) rfl⟩
        | _ => exact q2.elim
end
end DL
/-! The data layer, part Nb: ==, != by an own __eq__; static methods; isinstance of own classes. -/
namespace DL
open PySem L2
theorem ns_some_of {K : PySem.W.Frag} {h : Heap} {N : Addr} {mg : Str → Option Value} {n : Str} {v : Value} (X : K.In h) (G : h.Ns N mg) (e : PySem.W.nsIn K N n = some (some v)) : mg n = some v := by
  obtain ⟨o, es, ep, ho, hd, _, hf⟩ := G
  unfold PySem.W.nsIn at e
  split at e
  · rename_i c d es' n' sl q
    have := X _ _ q
    rw [ho] at this
    cases this
    cases hd
    split at e
    · rename_i en he
      cases e
      rw [← hf]
      unfold nsFind findBy
      rw [← Array.find?_toList, he]
      rfl
    · split at e <;> cases e
  · cases e
/-- a plain own class with its own __eq__ at f and no __ne__ -/
def neB (K : PySem.W.Frag) (C f : Addr) : Bool := (match K.lookup C with
  | some ⟨.type "type", _, .cls cd, sl⟩ => (match cd.mro, sl.toList with
    | [.ref C', .type o], [_, _, _, _, some (.builtin _), _] => C' == C && o == "object" && !cd.hasDel && PySem.W.nsOkIn K cd.ns && He.eqO (PySem.W.nsIn K cd.ns "__eq__") (some (some (.ref f))) && He.eqO (PySem.W.nsIn K cd.ns "__ne__") (some none)
    | _, _ => false)
  | _ => false) && (match K.lookup f with
  | some o => decide (o.cls = .type "function")
  | none => false)
theorem neB_ok {K : PySem.W.Frag} {C f : Addr} (h : neB K C f = true) {hp : Heap} (X : K.In hp) {x : Addr} {o : Obj} (hx : hp.get? x = some o) (hc : o.cls = .ref C) : hp.OwnEqNoNe x C f "object" [.type "object"] := by
  unfold neB at h
  obtain ⟨q, h2⟩ := He.ba h
  split at q
  · rename_i dd cd sl ho
    split at q
    · rename_i C' ob k0 k1 k2 k3 n k5 hm hs
      simp only [Bool.and_eq_true, beq_iff_eq, Bool.not_eq_true'] at q
      obtain ⟨⟨⟨⟨⟨rfl, rfl⟩, hdel⟩, hok⟩, he⟩, hne⟩ := q
      obtain ⟨nm, bs, mro, ns, qn, hd, sn, sub, ab, col, del⟩ := cd
      dsimp only at hm hdel hok he hne
      subst hm hdel
      have hsl : sl = #[k0, k1, k2, k3, some (.builtin n), k5] := by
        obtain ⟨l⟩ := sl
        simp only at hs
        rw [hs]
      subst hsl
      split at h2
      · rename_i of hf
        have hN : hp.Ns ns (hp.nsMap ns) := .of_isNs (PySem.W.isNs_of_in X hok)
        exact ⟨o, of, nm, qn, ns, bs, hd, sn, sub, ab, col, dd, k0, k1, k2, k3, k5, n, hp.nsMap ns, _, hx, hc, X _ _ ho, hN, ns_some_of X hN (He.eqO_ok he), X _ _ hf, of_decide_eq_true h2, F.cmp_object.mro, F.cmp_object.eq.lookup, PySem.W.ns_none_of X hN (He.eqO_ok hne)⟩
      · cases h2
    · cases q
  · cases q
section
variable {X : Cx} {c : Wd} {e a b : Expr} {es : List Expr} {te ta tb : DE} {tl tk : DA} {pos p apos : Pos} {n m x : Str} {cl : Str → Addr} {tb' : List (Addr × Str)} {k : Nat} {ps : List Str} {s : DSp} {E : DXK}
@[simp] def eqO (neg : Bool) (n : Str) (s : DSp) (E : DXK) : D2 := fun x y M Q => match insF n x M, insF n y M with
  | some _, some _ => s [x, y] M (fun d M2 => match d with | .bl r => Q (.bl (r != neg)) M2 | _ => False) E
  | _, _ => False
def rEqOwn (C : Addr) (sp : Sp) (EK : XK) (neg : Bool) : R2 := fun x y H Q => ∃ p dx fs q dy gs, x = .ref p ∧ y = .ref q ∧ H p = some (.ins C dx fs) ∧ H q = some (.ins C dy gs) ∧ sp [x, y] H (fun v H' => ∃ r, v = .bl r ∧ Q (.bl (r != neg)) H') EK
theorem eq_imp {K : PySem.W.Frag} (hcc : Cc cl tb' c) {neg : Bool} {ρ : DEnv} {w : Wd} {σ : St} {H : Hp} {Q : VK} {Q' : DK} (hH : w.H = H) (a0 : At K c w ρ σ) (h : dOp (eqO neg n s E) ta tb ρ w.M Q') (k : Wv K w Q' Q) : tOp (rEqOwn (cl n) (upX K cl tb' s) (XKof K c E) neg) (lift K c ta) (lift K c tb) σ H Q :=
  ⟨ρ, w, _, hH, a0, h, fun d w1 v q b1 r => ⟨ρ, w1, _, rfl, a0.next b1, q, fun y w2 v2 q2 b2 r2 => by
    cases e1 : insF n d w2.M with
    | none => simp only [eqO, e1] at q2
    | some fs =>
      cases e2 : insF n y w2.M with
      | none => simp only [eqO, e1, e2] at q2
      | some gs =>
        simp only [eqO, e1, e2] at q2
        obtain ⟨p1, dx, ws, rfl, h1, _⟩ := insF_at b2.ok (r.mono b2.kp) e1
        obtain ⟨p2, dy, zs, rfl, h2, _⟩ := insF_at b2.ok r2 e2
        have ecl : w2.cl n = cl n := by rw [b2.kp.cl, b1.kp.cl, a0.kp.cl, hcc.cl]
        refine ⟨p1, dx, ws, p2, dy, zs, rfl, rfl, by rw [← ecl]; exact h1, by rw [← ecl]; exact h2, w2, [d, y], _, E, rfl, hcc.sc ((a0.kp.trans b1.kp).trans b2.kp).sc, b2.ok, ⟨_, _, rfl, r.mono b2.kp, _, _, rfl, r2, rfl⟩, q2, fun d3 w3 v3 q3 b3 r3 => ?_, wvX_of a0 (b1.trans b2)⟩
        cases d3 with
        | bl z => obtain rfl : v3 = .bl z := r3; exact ⟨z, rfl, k _ w3 _ q3 ((b1.trans b2).trans b3) rfl⟩
        | _ => exact q3.elim⟩⟩
theorem op_eqOwn (hcc : Cc cl tb' c) (G : Mtd X.prog X.w X.K X.mg X.base cl tb' k n "__eq__" ps s) (hr : Room k X.A) (htk : Tk c X E) : OpR X (compareOp .Eq) (rEqOwn (cl n) (upX X.K cl tb' s) (XKof X.K c E) false) := by
  obtain ⟨f, fd, F, hb, hM, hC⟩ := G.ex
  have FR := fnR_of F hb
  intro pins sh σ H x y v u Q I rx ry h
  obtain ⟨p1, dx, fs, p2, dy, gs, rfl, rfl, h1, h2, h⟩ := h
  cases (show v = Value.ref p1 from rx)
  cases (show u = Value.ref p2 from ry)
  obtain ⟨mA, J, _⟩ := ins_get I.hok h1
  obtain ⟨mB, J', _⟩ := ins_get I.hok h2
  obtain ⟨od, J, _⟩ := J.look
  obtain ⟨od', J', _⟩ := J'.look
  obtain ⟨m, hF⟩ := I.fr
  refine PySem.W.cmp_K (op := .Eq) (tb := .ref (cl n)) hr.units0 hF I.ok.mod.kin J J'.type (by simp [PySem.W.notFirst]) hM.at_ hM.fn ?_
  refine wpAny_mono (wpAny_call (run_fnR (us := [.ref p1, .ref p2]) (vs := [.ref p1, .ref p2]) FR hr htk.pass I (.cons rfl (.cons rfl .nil)) h)) (fun w s' z => ?_) fun _ _ x => x
  obtain ⟨z', H', I', rz, r, er, qz⟩ := z
  subst er
  cases (show w = Value.bool r from rz)
  have : (r != false) = r := by cases r <;> rfl
  rw [this] at qz
  exact ⟨.bl r, H', I', rfl, qz⟩
theorem op_neOwn (hcc : Cc cl tb' c) (G : Mtd X.prog X.w X.K X.mg X.base cl tb' k n "__eq__" ps s) (hne : neB X.K (cl n) (He.ma X.K (cl n) "__eq__") = true) (hr : Room (k + 1) X.A) (htk : Tk c X E) : OpR X (compareOp .NotEq) (rEqOwn (cl n) (upX X.K cl tb' s) (XKof X.K c E) true) := by
  obtain ⟨f, fd, F, hb, hM, hC⟩ := G.ex
  have FR := fnR_of F hb
  have ef : He.ma X.K (cl n) "__eq__" = f := by unfold He.ma; rw [hM.at_]
  rw [ef] at hne
  intro pins sh σ H x y v u Q I rx ry h
  obtain ⟨p1, dx, fs, p2, dy, gs, rfl, rfl, h1, h2, h⟩ := h
  cases (show v = Value.ref p1 from rx)
  cases (show u = Value.ref p2 from ry)
  obtain ⟨_, _, _, ob1, _⟩ := (show ObjOk X.prog X.w H sh.heap p1 (.ins (cl n) dx fs) from I.hok _ _ h1)
  obtain ⟨_, _, _, ob2, _⟩ := (show ObjOk X.prog X.w H sh.heap p2 (.ins (cl n) dy gs) from I.hok _ _ h2)
  obtain ⟨hp, gn, dr, tk0, os⟩ := sh
  refine compareOp_ne_ownEq PySem.F.cmp_object (neB_ok hne I.kIn ob1 rfl) ob2 rfl (by have := hr.un; omega) ?_
  refine wpAny_mono (wpAny_call (SlX.run_at (us := [.ref p1, .ref p2]) (ws := [.ref p1, .ref p2]) FR (Room.in1 hr) I.env0.in1 htk.pass I (.cons rfl (.cons rfl .nil)) h)) (fun w s' z => ?_) fun _ _ x => x
  obtain ⟨z', H', I', rz, r, er, qz⟩ := z
  subst er
  cases (show w = Value.bool r from rz)
  have : (r != true) = !r := by cases r <;> rfl
  rw [this] at qz
  exact ⟨r, rfl, .bl (!r), H', I', rfl, qz⟩
theorem pd_eqO (hcc : Cc cl tb' c) (G : Mtd X.prog X.w X.K X.mg X.base cl tb' k n "__eq__" ps s) (hr : Room k X.A) (htk : Tk c X E) (ha : PD c X a ta) (hb : PD c X b tb) (hm : behindInMarks .Eq b = false := by first | exact nobehind _ (by decide) (by decide) | rfl) : PD c X (.Compare a [.Eq] [b] pos) (dOp (eqO false n s E) ta tb) :=
  PE_imp (pe_cmpR (op_eqOwn hcc G hr htk) ha hb hm) fun _ _ _ ⟨_, _, _, hH, a, h, k⟩ => eq_imp hcc hH a h k
theorem pdt_eqO (hcc : Cc cl tb' c) (G : Mtd X.prog X.w X.K X.mg X.base cl tb' k n "__eq__" ps s) (hr : Room k X.A) (htk : Tk c X E) (ha : PD c X a ta) (hb : PD c X b tb) (hm : behindInMarks .Eq b = false := by first | exact nobehind _ (by decide) (by decide) | rfl) : PDT c X (.Compare a [.Eq] [b] pos) (dB (dOp (eqO false n s E) ta tb)) :=
  PT_imp (pt_cmpR (op_eqOwn hcc G hr htk) ha hb hm) fun _ _ _ ⟨_, _, _, hH, a, h, k⟩ => eq_imp hcc hH a h (Wv.isB k)
theorem pd_neO (hcc : Cc cl tb' c) (G : Mtd X.prog X.w X.K X.mg X.base cl tb' k n "__eq__" ps s) (hne : neB X.K (cl n) (He.ma X.K (cl n) "__eq__") = true) (hr : Room (k + 1) X.A) (htk : Tk c X E) (ha : PD c X a ta) (hb : PD c X b tb) (hm : behindInMarks .NotEq b = false := by first | exact nobehind _ (by decide) (by decide) | rfl) : PD c X (.Compare a [.NotEq] [b] pos) (dOp (eqO true n s E) ta tb) :=
  PE_imp (pe_cmpR (op_neOwn hcc G hne hr htk) ha hb hm) fun _ _ _ ⟨_, _, _, hH, a, h, k⟩ => eq_imp hcc hH a h k
theorem pdt_neO (hcc : Cc cl tb' c) (G : Mtd X.prog X.w X.K X.mg X.base cl tb' k n "__eq__" ps s) (hne : neB X.K (cl n) (He.ma X.K (cl n) "__eq__") = true) (hr : Room (k + 1) X.A) (htk : Tk c X E) (ha : PD c X a ta) (hb : PD c X b tb) (hm : behindInMarks .NotEq b = false := by first | exact nobehind _ (by decide) (by decide) | rfl) : PDT c X (.Compare a [.NotEq] [b] pos) (dB (dOp (eqO true n s E) ta tb)) :=
  PT_imp (pt_cmpR (op_neOwn hcc G hne hr htk) ha hb hm) fun _ _ _ ⟨_, _, _, hH, a, h, k⟩ => eq_imp hcc hH a h (Wv.isB k)
/-! ### static methods -/
structure SMet (K : PySem.W.Frag) (C : Addr) (m : Str) (p g : Addr) : Prop where
  rd : ClX.CRead K C (.type "type")
  at_ : PySem.W.findCls K (.ref C) (.type "type") m = some (.get (.builtin "staticmethod.__get__") (.ref p) .none (.ref C))
  rc : ∃ rest, PySem.W.recIn K p "staticmethod" = some (.ref g :: rest)
  kp : PySem.W.keepIn K (.ref g) = true
theorem getsmet_ok {pins : List (Addr × Obj)} {σ : St} {H : Hp} {sh : Shared} {C p g : Addr} {A : Around} {EE : Value → Shared → Prop} {bb : Bool} {Q : Value → Shared → Prop} (I : Inv X pins σ H sh) (r : SMet X.K C m p g) (h : ∀ s', Inv X pins σ H s' → Q (.ref g) s') : wpAny (model X.prog X.w) A (getAttr (.ref C) m bb) Q EE sh := by
  obtain ⟨rest, hp⟩ := r.rc
  refine PySem.W.cls_bind I.kIn r.rd.rd r.at_ ?_
  refine wpAny_call (PySem.W.sm_get (s := { sh with toks := sh.toks + 1 }) I.kIn hp (PySem.W.handed_on rfl ?_))
  exact h _ (I.tok _)
/-- a static method of the text that keeps its promise, called with j positional values and the keywords ks -/
structure Stc (P : Program) (w : World) (K : PySem.W.Frag) (mg : Str → Option Value) (base : Heap) (cl : Str → Addr) (tb : List (Addr × Str)) (k : Nat) (n m : Str) (j : Nat) (ks ps : List Str) (gD : List D → List D → List D) (s : DSp) : Prop where
  ex : ∃ p f fd, SMet K (cl n) m p f ∧ FnOk P w K mg base (L2N.CX P w) k f fd ps (upX K cl tb s) ∧ KB K fd ps j ks gD ∧ mg n = some (.ref (cl n))
@[simp] def dStat (s : DSp) (E : DXK) (j i : Nat) (gD : List D → List D → List D) (tl tk : DA) : DE := fun ρ M Q => tl ρ M fun ds M1 => tk ρ M1 fun es M2 => ds.length = j ∧ es.length = i ∧ s (gD ds es) M2 Q E
theorem stat_imp {K : PySem.W.Frag} {j i : Nat} {gD : List D → List D → List D} {gV : List V → List V → List V} (hcc : Cc cl tb' c) (hg : ∀ (w : Wd) (ds es : List D) (vs zs : List V), ds.length = j → es.length = i → RpL K w ds vs → RpL K w es zs → RpL K w (gD ds es) (gV vs zs)) {σ : St} {H : Hp} {Q : VK}
    (h : lift K c (dStat s E j i gD tl tk) σ H Q) : tCallN j i (upX K cl tb' s) gV (XKof K c E) (liftA K c tl) (liftA K c tk) σ H Q := by
  obtain ⟨ρ, w, Q', hH, a, h, k⟩ := h
  refine ⟨ρ, w, _, hH, a, h, fun ds w1 vs q b r => ⟨ρ, w1, _, rfl, a.next b, q, fun es w2 zs q2 b2 r2 => ?_⟩⟩
  obtain ⟨l1, l2, q2⟩ := q2
  exact ⟨by rw [r.length]; exact l1, by rw [r2.length]; exact l2, w2, gD ds es, Q', E, rfl, hcc.sc ((a.kp.trans b.kp).trans b2.kp).sc, b2.ok, hg _ _ _ _ _ l1 l2 (r.mono b2.kp) r2, q2, k.back (b.trans b2), wvX_of a (b.trans b2)⟩
theorem pd_stat {pl : Sem Bool} {kws : List Keyword} {ks : List Str} {j : Nat} {gD : List D → List D → List D} (hcc : Cc cl tb' c) (G : Stc X.prog X.w X.K X.mg X.base cl tb' k n m j ks ps gD s) (hr : Room k X.A) (htk : Tk c X E) (ha : PDA c X (e :: es) tl) (hkw : PDK c X kws tk) (hg : Gl X n := by rfl)
    (hall : (backToKw pos (keywordEach kws X.env)).all (·.1.isSome) = true := by rfl) (hks : (backToKw pos (keywordEach kws X.env)).filterMap (·.1) = ks := by rfl) (hdb : (n == ("__debug__" : Str)) = false := by decide)
    (hst : starEach (e :: es) X.env = (false, eval e X.env) :: starEach es X.env := by rfl) (hpl : ((backTo pos (starEach (e :: es) X.env)).any (·.1) || (backToKw pos (keywordEach kws X.env)).any (·.1.isNone)) = false := by rfl)
    (ht : eval (.Call (.Attribute (.Name n p) m apos) (e :: es) kws pos) X.env = (do
      let ov ← eval (.Name n p) X.env
      standAt apos.atName
      let (f, first) ← holding [ov] (getMethod ov m pl)
      callWith pos f first (backTo pos (starEach (e :: es) X.env)) (backToKw pos (keywordEach kws X.env))) := by rfl) : PD c X (.Call (.Attribute (.Name n p) m apos) (e :: es) kws pos) (dStat s E j ks.length gD tl tk) := by
  obtain ⟨pp, f, fd, S, F, ⟨g, gV, hb, hgl⟩, hm⟩ := G.ex
  refine ⟨fun pins sh σ H Q I h => ?_⟩
  have h2 : liftA X.K c tl σ H (fun vs H1 => liftA X.K c tk σ H1 fun zs H2 => vs.length = j ∧ zs.length = ks.length ∧ upX X.K cl tb' s (gV vs zs) H2 Q (XKof X.K c E)) := stat_imp hcc hgl h
  refine PySem.W.methodCall_KW (pl := pl) (ld_glob I hg hm ?_ hdb) ht
  refine PySem.W.method_cls I.kIn S.rd.ga (getsmet_ok I S fun s2 I2 => ?_)
  refine PySem.W.callWith_KW (first := []) (h₀ := X.base) I.ok.mod.kin S.kp hall (thn (ha.run pos pins s2 σ H _ I2 h2) fun us s1 ⟨vs, H1, I1, r, q⟩ => ?_) hpl hst
  refine thn (hkw.run pos pins s1 σ H1 _ I1 q) fun ws s3 ⟨zs, H2, I3, rz, l1, l2, q2⟩ => ⟨I3.kIn, ?_⟩
  rw [hks]
  exact run_fnN F hr hb htk.pass I3 r rz l1 l2 q2
theorem pd_stat0 {pl : Sem Bool} {kws : List Keyword} {ks : List Str} {gD : List D → List D → List D} (hcc : Cc cl tb' c) (G : Stc X.prog X.w X.K X.mg X.base cl tb' k n m 0 ks ps gD s) (hr : Room k X.A) (htk : Tk c X E) (hkw : PDK c X kws tk) (hg : Gl X n := by rfl)
    (hall : (backToKw pos (keywordEach kws X.env)).all (·.1.isSome) = true := by rfl) (hks : (backToKw pos (keywordEach kws X.env)).filterMap (·.1) = ks := by rfl) (hdb : (n == ("__debug__" : Str)) = false := by decide)
    (hpl : ((backTo pos (starEach [] X.env)).any (·.1) || (backToKw pos (keywordEach kws X.env)).any (·.1.isNone)) = false := by rfl)
    (ht : eval (.Call (.Attribute (.Name n p) m apos) [] kws pos) X.env = (do
      let ov ← eval (.Name n p) X.env
      standAt apos.atName
      let (f, first) ← holding [ov] (getMethod ov m pl)
      callWith pos f first (backTo pos (starEach [] X.env)) (backToKw pos (keywordEach kws X.env))) := by rfl) : PD c X (.Call (.Attribute (.Name n p) m apos) [] kws pos) (dStat s E 0 ks.length gD dNil tk) := by
  obtain ⟨pp, f, fd, S, F, ⟨g, gV, hb, hgl⟩, hm⟩ := G.ex
  refine ⟨fun pins sh σ H Q I h => ?_⟩
  obtain ⟨ρ, w, Q', hH, at0, h0, k0⟩ := stat_imp hcc hgl h
  subst hH
  have h1 := k0 [] w [] h0 (Bh.refl at0.ok) rfl
  refine PySem.W.methodCall_KW (pl := pl) (ld_glob I hg hm ?_ hdb) ht
  refine PySem.W.method_cls I.kIn S.rd.ga (getsmet_ok I S fun s2 I2 => ?_)
  refine PySem.W.callWith_KW0 (first := []) (h₀ := X.base) I.ok.mod.kin S.kp hall (thn (hkw.run pos pins s2 σ w.H _ I2 h1) fun ws s3 ⟨zs, H2, I3, rz, l1, l2, q2⟩ => ⟨I3.kIn, ?_⟩) hpl
  rw [hks]
  exact run_fnN F hr hb htk.pass I3 .nil rz l1 l2 q2
end
end DL
/-! The data layer, part Nc: isinstance of own classes; str of texts; what the head tells of classes. -/
namespace DL
open PySem L2
/-- what isinstance asks of an own class -/
structure IsoC (K : PySem.W.Frag) (C : Addr) : Prop where
  c1 : PySem.W.findIn K (.ref C) "__class__" = some (some (.builtin "object.__class__"))
  c2 : PySem.W.specialIn K (.builtin "object.__class__") "__get__" = some (some (.builtin "getset_descriptor.__get__"))
  c3 : PySem.W.takesIn K (.builtin "object.__class__") = some true
  c4 : PySem.W.mroIn K C (.type "object") = some true
  self : PySem.W.kitOne K (.ref C) (.ref C) = some true
  no : ∀ t ∈ tyNames, PySem.W.kitOne K (.type t) (.ref C) = some false
def isoB (K : PySem.W.Frag) (C : Addr) : Bool := He.eqO (PySem.W.findIn K (.ref C) "__class__") (some (some (.builtin "object.__class__"))) && (He.eqO (PySem.W.specialIn K (.builtin "object.__class__") "__get__") (some (some (.builtin "getset_descriptor.__get__"))) && (decide (PySem.W.takesIn K (.builtin "object.__class__") = some true) && (decide (PySem.W.mroIn K C (.type "object") = some true) &&
  (decide (PySem.W.kitOne K (.ref C) (.ref C) = some true) && tyNames.all fun t => decide (PySem.W.kitOne K (.type t) (.ref C) = some false)))))
theorem isoB_ok {K : PySem.W.Frag} {C : Addr} (h : isoB K C = true) : IsoC K C := by
  obtain ⟨h1, h⟩ := He.ba h
  obtain ⟨h2, h⟩ := He.ba h
  obtain ⟨h3, h⟩ := He.ba h
  obtain ⟨h4, h⟩ := He.ba h
  obtain ⟨h5, h6⟩ := He.ba h
  exact ⟨He.eqO_ok h1, He.eqO_ok h2, of_decide_eq_true h3, of_decide_eq_true h4, of_decide_eq_true h5, fun t ht => of_decide_eq_true (List.all_eq_true.mp h6 t ht)⟩
section
variable {X : Cx} {c : Wd} {e a b : Expr} {es : List Expr} {te ta tb : DE} {tl tk : DA} {pos p p2 apos : Pos} {n m x : Str} {cl : Str → Addr} {fl : List Str}
@[simp] def dIsO (n : Str) (te : DE) : DE := fun ρ M Q => te ρ M fun x M1 => match insF n x M1 with
  | some _ => Q (.bl true) M1
  | none => (tyN x).isSome = true ∧ Q (.bl false) M1
theorem pd_isO (hcl : c.cl = cl) (C : ClsD X.K cl n fl) (T : IsoC X.K (cl n)) (hmn : X.mg n = some (.ref (cl n))) (hm : X.mg "isinstance" = none) (he : PD c X e te) (hgi : Gl X "isinstance" := by rfl) (hg : Gl X n := by rfl) (hdb : (n == ("__debug__" : Str)) = false := by decide)
    (hs : starEach [e, .Name n p2] X.env = (false, eval e X.env) :: starEach [.Name n p2] X.env := by rfl) (hs2 : starEach [.Name n p2] X.env = (false, eval (.Name n p2) X.env) :: starEach [] X.env := by rfl) (hpl : (backTo pos (starEach [.Name n p2] X.env)).any (·.1) = false := by rfl) :
    PD c X (.Call (.Name "isinstance" p) [e, .Name n p2] [] pos) (dIsO n te) := by
  have rule : CallR X (.builtin "isinstance") (fun xs H Q => ∃ (x : V) (w : Wd) (d : D), xs = [x, V.ref (cl n)] ∧ w.H = H ∧ Ok X.K w ∧ w.cl = cl ∧ Rp X.K w d x ∧ (match insF n d w.M with | some _ => Q (.bl true) H | none => (tyN d).isSome = true ∧ Q (.bl false) H)) := by
    intro pins sh σ H xs us Q I r h
    obtain ⟨x, w, d, rfl, rfl, ok, ecl, rd, h⟩ := h
    obtain ⟨u1, u2, rfl, r1, r2⟩ := vals2 r
    cases (show u2 = Value.ref (cl n) from r2)
    cases ei : insF n d w.M with
    | some fs =>
      simp only [ei] at h
      obtain ⟨ad, dx, ws, rfl, h1, h2⟩ := insF_at ok rd ei
      rw [ecl] at h1
      obtain ⟨P, Z, pz, hx⟩ := kit_of I r1 (.base (.ins h1 C.cls T.c1 T.c2 T.c3 T.c4))
      exact PySem.W.kia_one Z I.kIn pz T.self hx fun tk => ⟨.bl true, w.H, I.tok tk, rfl, h⟩
    | none =>
      simp only [ei] at h
      obtain ⟨t, ht⟩ := Option.isSome_iff_exists.mp h.1
      obtain ⟨P, Z, pz, hx⟩ := kit_D I ht rd r1
      exact PySem.W.kia_one Z I.kIn pz (T.no t (tyN_mem ht)) hx fun tk => ⟨.bl false, w.H, I.tok tk, rfl, h.2⟩
  refine PE_imp (pe_callB rule hgi hm (by decide +kernel) (pa_cons he (pa_cons (pe_glob (v := .ref (cl n)) hg hmn rfl hdb) pa_nil hs2) hs) (by decide) (by decide) hs hpl) fun σ H Q ⟨ρ, w, Q', hH, a0, h, k⟩ => ?_
  refine ⟨ρ, w, _, hH, a0, h, fun d w1 v q b r => ?_⟩
  refine ⟨v, w1, d, rfl, rfl, b.ok, by rw [b.kp.cl, a0.kp.cl, hcl], r, ?_⟩
  cases ei : insF n d w1.M with
  | some fs => simp only [ei] at q ⊢; exact k _ w1 _ q b rfl
  | none => simp only [ei] at q ⊢; exact ⟨q.1, k _ w1 _ q.2 b rfl⟩
/-! ### str of texts -/
@[simp] def strE : DC := fun ds M Q => match ds with
  | [.int i] => i.natAbs.log2 < 1920 ∧ Q (.str (toString i)) M
  | [.str z] => Q (.str z) M
  | _ => False
theorem str_E : CallD X (.type "str") strE := by
  intro pins s σ H vs us Q I rs ⟨w, ds, Q', hH, ok, r, h, k⟩
  subst hH
  cases ds with
  | nil => exact False.elim h
  | cons d ds =>
    cases ds with
    | cons _ _ => cases d <;> exact False.elim h
    | nil =>
      obtain ⟨v, rfl, r1⟩ := one_of r
      cases d with
      | int i => obtain rfl : v = .int i := r1; exact call_str_int pins s σ _ _ us Q I rs ⟨i, rfl, h.1, k.here ok h.2 rfl⟩
      | str z => obtain rfl : v = .str z := r1; exact SkE.call_str_str pins s σ _ _ us Q I rs ⟨z, rfl, k.here ok h rfl⟩
      | _ => exact False.elim h
end
/-! ### the head's facts of a class -/
def creadB (K : PySem.W.Frag) (C : Addr) : Bool := PySem.W.readsIn K C (.type "type") && He.eqO (PySem.W.specialIn K (.ref C) "__getattribute__") (some (some (.builtin "type.__getattribute__")))
theorem creadB_ok {K : PySem.W.Frag} {C : Addr} (h : creadB K C = true) : ClX.CRead K C (.type "type") := by
  obtain ⟨h1, h2⟩ := He.ba h
  exact ⟨h1, He.eqO_ok h2⟩
def cconB (K : PySem.W.Frag) (C : Addr) (f : Str) (d : D) : Bool := match PySem.W.findCls K (.ref C) (.type "type") f with
  | some (.val u) => cstB K 4 u d
  | _ => false
theorem cconB_ok {K : PySem.W.Frag} {mg : Str → Option Value} {cl : Str → Addr} {n f : Str} {d : D} (hm : mg n = some (.ref (cl n))) (h1 : creadB K (cl n) = true) (h2 : cconB K (cl n) f d = true) : CCon K mg cl n f d := by
  refine ⟨hm, ?_⟩
  unfold cconB at h2
  split at h2
  · rename_i u e
    obtain ⟨v, r, hr⟩ := cst_ok 4 u d h2
    exact ⟨_, v, u, creadB_ok h1, ⟨e, r⟩, hr⟩
  · cases h2
def smB (K : PySem.W.Frag) (C : Addr) (m : Str) : Bool := creadB K C && (He5.wrapB K C "staticmethod" "staticmethod.__get__" m && PySem.W.keepIn K (.ref (He5.wf K C "staticmethod" m)))
theorem smB_ok {K : PySem.W.Frag} {C : Addr} {m : Str} (h : smB K C m = true) : SMet K C m (He.ma K C m) (He5.wf K C "staticmethod" m) := by
  obtain ⟨h1, h⟩ := He.ba h
  obtain ⟨h2, h3⟩ := He.ba h
  obtain ⟨h4, h5⟩ := He5.wrapB_ok h2
  exact ⟨creadB_ok h1, h4, h5, h3⟩
/-! ### defs at any address -/
def fnA (K : PySem.W.Frag) (f : Addr) : He.FnW := match K.lookup f with
  | some ⟨_, _, .func fd, _⟩ => some (fd.name, fd.qualname, fd.params, fd.body, fd.scope, fd.globals, fd.closure, fd.builtins)
  | _ => none
def okA (K : PySem.W.Frag) (f : Addr) (d : He.DefD) : Bool := PySem.W.keepIn K (.ref f) && (match K.lookup f with
  | some ⟨_, _, .func fd, _⟩ => PySem.W.codeIn K fd.code d.qual && (He.dflB K fd.defaults (d.dvs K) && He.kwdB K fd.kwdefaults (d.kws K))
  | _ => false)
theorem funA {K : PySem.W.Frag} {f : Addr} {d : He.DefD} (e : fnA K f = d.val) (c : okA K f d = true) : ∃ fd, FunD K d.name d.qual d.params d.body d.scope (d.dvs K) (d.kws K) f fd := by
  obtain ⟨kp, c2⟩ := He.ba c
  unfold fnA at e
  cases q : K.lookup f with
  | none =>
    rw [q] at c2
    cases c2
  | some o =>
    obtain ⟨oc, od, dt, osl⟩ := o
    rw [q] at c2 e
    cases dt with
    | func fd =>
      obtain ⟨n1, n2, n3, n4, n5, n6, n7, n8, n9, n10, n11, n12, n13, n14, n15⟩ := fd
      have e2 : (some (n1, n2, n3, n4, n5, n6, n7, n15) : He.FnW) = some (d.name, d.qual, d.params, .stmts d.body, d.scope, mainGlobals, [], builtinsNs) := e
      simp only [Option.some.injEq, Prod.mk.injEq] at e2
      obtain ⟨h1, h2, h3, h4, h5, h6, h7, h8⟩ := e2
      subst h1 h2 h3 h4 h5 h6 h7 h8
      have c3 : (PySem.W.codeIn K n13 d.qual && (He.dflB K n8 (d.dvs K) && He.kwdB K n9 (d.kws K))) = true := c2
      obtain ⟨k1, k2⟩ := He.ba c3
      obtain ⟨k3, k4⟩ := He.ba k2
      exact ⟨_, ⟨oc, od, n8, n9, n10, n11, n12, n13, n14, osl, rfl, q, k1, He.dflB_ok k3, He.kwdB_ok k4⟩, kp⟩
    | _ => cases c2
/-! ### the Hook, with static methods -/
abbrev SD := (Str × Str) × He.DefD
def sdA (K : PySem.W.Frag) (d : SD) : Addr := He5.wf K (He.ga K d.1.1) "staticmethod" d.1.2
abbrev AlY : Type := He.AlX × List He.FnW
structure SaysY (fa : List He.Fa) (fn : List He.DefD) (ts : List He.Tab) (tf : List He.Defn) (sd : List SD) (ex : PySem.W.Frag → Bool) (w : World) (h : Heap) (K : PySem.W.Frag) : Prop where
  x : He.SaysX fa fn ts tf (fun K => ex K && sd.all fun d => okA K (sdA K d) d.2) w h K
  s : sd.map (fun d => fnA K (sdA K d)) = sd.map fun d => d.2.val
theorem SaysY.def_ {fa : List He.Fa} {fn : List He.DefD} {ts : List He.Tab} {tf : List He.Defn} {sd : List SD} {ex : PySem.W.Frag → Bool} {w : World} {h : Heap} {K : PySem.W.Frag} (c : SaysY fa fn ts tf sd ex w h K) (i : Nat) {d : SD} (hd : sd[i]? = some d) :
    ∃ fd, FunD K d.2.name d.2.qual d.2.params d.2.body d.2.scope (d.2.dvs K) (d.2.kws K) (sdA K d) fd := by
  have h1 := (He.ba c.x.more).2
  have e2 : (sd.map fun d => fnA K (sdA K d))[i]? = (sd.map fun d => d.2.val)[i]? := by rw [c.s]
  rw [List.getElem?_map, List.getElem?_map, hd] at e2
  exact funA (Option.some.inj e2) (List.all_eq_true.mp h1 d (List.mem_of_getElem? hd))
def exS (sd : List SD) (ex : PySem.W.Frag → Bool) : PySem.W.Frag → Bool := fun K => ex K && sd.all fun d => okA K (sdA K d) d.2
def obsY (n : Nat) (fa : List He.Fa) (fn : List He.DefD) (ts : List He.Tab) (tf : List He.Defn) (sd : List SD) (ex : PySem.W.Frag → Bool) (g : Addr → Option Obj) : AlY := (He.obsX n fa fn ts tf (exS sd ex) g, sd.map fun d => fnA (He.frT g (He.asD g n)) (sdA (He.frT g (He.asD g n)) d))
def hookY (n : Nat) (fa : List He.Fa) (fn : List He.DefD) (ts : List He.Tab) (tf : List He.Defn) (sd : List SD) (ex : PySem.W.Frag → Bool) : PySem.W.Hook where
  α := AlY
  obs := fun s => obsY n fa fn ts tf sd ex s.heap.get?
  val := fun w => (He.valX fn ts w, sd.map fun (d : SD) => He.DefD.val d.2)
  says := fun w h => ∃ K : PySem.W.Frag, K.In h ∧ SaysY fa fn ts tf sd ex w h K
  of := fun _ _ e => ⟨_, He.frT_in, ⟨He.saysX_of (congrArg (fun z : AlY => z.1) e), congrArg (fun z : AlY => z.2) e⟩⟩
  keeps := fun _ _ _ ⟨K, hK, c⟩ k => ⟨K, PySem.W.Frag.In.keeps hK k, ⟨⟨c.x.t, c.x.more, c.x.hd, c.x.out, fun p hp => k _ _ (c.x.empty p hp)⟩, c.s⟩⟩
theorem obsY_eq {n : Nat} {fa : List He.Fa} {fn : List He.DefD} {ts : List He.Tab} {tf : List He.Defn} {sd : List SD} {ex : PySem.W.Frag → Bool} {g : Addr → Option Obj} {s : Shared} (h : ∀ a, g a = s.heap.get? a) : obsY n fa fn ts tf sd ex g = (hookY n fa fn ts tf sd ex).obs s := by
  have e : g = s.heap.get? := funext h
  rw [e] <;> rfl
end DL
/-! The data layer, part Nd: how arguments come to parameters; promises lent, by kinds of calls. -/
namespace DL
open PySem L2
section
variable {P : Program} {w : World} {K : PySem.W.Frag} {mg : Str → Option Value} {base : Heap} {cl : Str → Addr} {tb : List (Addr × Str)} {k : Nat} {x qual n m : Str} {params : Arguments} {body : List Stmt} {scope : Scope} {dvs : List V} {kws : List (Str × V)} {f : Addr} {fd : FuncData} {ps ks : List Str} {j : Nat} {s : DSp} {gD : List D → List D → List D}
theorem app_rp (w : Wd) (ds es : List D) (vs zs : List V) (_ : ds.length = j) (_ : es.length = ks.length) (h1 : RpL K w ds vs) (h2 : RpL K w es zs) : RpL K w (ds ++ es) (vs ++ zs) := h1.append h2
/-- no defaults; the keywords stand in the parameters' order -/
theorem kbA (F : FunD K x qual params body scope [] [] f fd) (h : ∀ (kV doc pm : Value) (an : Option Addr) (cdv ct : Value) (us ws : List Value), us.length = j → ws.length = ks.length → bindArgs (PySem.W.fnOf x qual params body scope .none kV doc pm an cdv ct) ⟨us, ks.zip ws⟩ = pure (ps.zip (us ++ ws))) :
    KB K fd ps j ks (fun ds es => ds ++ es) := by
  obtain ⟨oc, od, dV, kV, doc, pm, an, cdv, ct, osl, rfl, lk, hcd, hD, hK⟩ := F.ex
  rcases hD with ⟨_, rfl⟩ | ⟨e, _⟩
  · exact ⟨_, _, ⟨fun s us ws X l1 l2 => .of_eq (h kV doc pm an cdv ct us ws l1 l2), fun r1 r2 => r1.append r2⟩, app_rp⟩
  · exact absurd rfl e
/-- defaults of both kinds, none of them used -/
theorem kbB (F : FunD K x qual params body scope dvs kws f fd) (hd : dvs ≠ []) (hk : kws ≠ [])
    (h : ∀ (T D : Addr) (doc pm : Value) (an : Option Addr) (cdv ct : Value) (us its ws : List Value), us.length = j → its.length = dvs.length → ws.length = ks.length →
      ∃ k, bindArgs (PySem.W.fnOf x qual params body scope (.ref T) (.ref D) doc pm an cdv ct) ⟨us, ks.zip ws⟩ = seqItems? (.ref T) >>= k ∧ k (some its.toArray) = pure (ps.zip (us ++ ws))) :
    KB K fd ps j ks (fun ds es => ds ++ es) := by
  obtain ⟨its, mv, hB⟩ := F.kbinds (ps := ps) j ks [] (fun us _ _ ws => us ++ ws) hd hk (fun q hq => by cases hq) (fun r1 _ _ r2 => r1.append r2) (fun T D doc pm an cdv ct us its mv ws l1 l2 l3 l4 => by
    have : mv = [] := List.length_eq_zero_iff.mp l3
    subst this
    exact h T D doc pm an cdv ct us its ws l1 l2 l4)
  exact ⟨_, _, hB, app_rp⟩
theorem Mkr.lend (F : Mkr P w K mg base cl tb k n j ks ps gD s) : Mkr P w K mg base cl tb k n j ks ps gD (lendSp s) := by
  obtain ⟨f, fd, a, b, c⟩ := F.ex
  exact ⟨f, fd, a, FnOk.lend b, c⟩
theorem Mtd.lend (F : Mtd P w K mg base cl tb k n m ps s) : Mtd P w K mg base cl tb k n m ps (lendSp s) := by
  obtain ⟨f, fd, a, b⟩ := F.ex
  exact ⟨f, fd, FnOk.lend a, b⟩
theorem Mkr.mono {i : Nat} (F : Mkr P w K mg base cl tb i n j ks ps gD s) (h : i ≤ k) : Mkr P w K mg base cl tb k n j ks ps gD s := by
  obtain ⟨f, fd, a, b, c⟩ := F.ex
  exact ⟨f, fd, a, b.mono h, c⟩
end
end DL
/-! The data layer, part Ne: owned lists are lent while an expression is evaluated. -/
namespace DL
open PySem L2
def dLd (te : DE) : DE := fun ρ M Q => ∃ lent : Addr → Prop, (∀ a, lent a → ∃ xs, M a = some (.lst xs)) ∧ ∀ r, r ≠ 0 → (∀ a m, M a = some m → noRM r m = true) →
  te (ρ.map (Option.map (ld M lent r 9))) (drop M lent) (fun d M3 => noR r d = true ∧ (∀ a m, M3 a = some m → noRM r m = true) ∧ Q d (back M3 M lent))
section
variable {X : Cx} {c : Wd} {e : Expr} {te : DE}
theorem re_ld {K : PySem.W.Frag} {w : Wd} {lent : Addr → Prop} {r : Nat} {ρ : DEnv} {σ : St} (o : Ok K w) (hl : ∀ a, lent a → ∃ xs, w.M a = some (.lst xs)) (hr : ∀ a, w.ln r a = none) (h0 : r ≠ 0) (h : RE K w ρ σ) : RE K (w.le lent r) (ρ.map (Option.map (ld w.M lent r 9))) σ := by
  refine ⟨by rw [List.length_map]; exact h.1, fun i d e => ?_⟩
  rw [List.getElem?_map] at e
  cases q : ρ[i]? with
  | none => rw [q] at e; cases e
  | some x =>
    rw [q] at e
    cases x with
    | none => cases e
    | some d0 =>
      cases e
      obtain ⟨v, e1, r1⟩ := h.2 i d0 q
      exact ⟨v, e1, ld_rp o hl hr h0 9 _ _ r1⟩
theorem pd_ld (h : ∀ c', SC c c' → PD c' X e te) : PD c X e (dLd te) := by
  refine ⟨fun pins s σ H Q I ⟨ρ, w, Q', hH, a, ⟨lent, hl, h1⟩, k⟩ => ?_⟩
  obtain ⟨n, hn⟩ := a.ok.lfr
  have h0 : n + 1 ≠ 0 := by omega
  have hr : ∀ b, w.ln (n + 1) b = none := fun b => hn (n + 1) (by omega) b
  have z := h1 (n + 1) h0 (a.ok.noR h0 hr)
  have okl := ok_le a.ok hl hr
  have kpl := kp_le a.ok hl hr
  refine (h (w.le lent (n + 1)) (a.kp.trans kpl).sc).run pins s σ H Q I ⟨_, w.le lent (n + 1), _, hH, ⟨Kp.refl _, re_ld a.ok hl hr h0 a.re, okl, rfl, rfl⟩, z, fun d w3 v q b rp => ?_⟩
  obtain ⟨hd, hm, q⟩ := q
  obtain ⟨bk, bh⟩ := un_all a.ok hl hr b hm
  exact k d (w3.un w lent) v q bh (rp.bk bk hd)
end
end DL
/-! The data layer, part Nf: the head's Hook, with the interpreter's statics in view (the facts of a class that is read look there). -/
namespace DL
open PySem L2
abbrev KA (n : Nat) (g : Addr → Option Obj) : PySem.W.Frag := He.frT g (He5.asA g n)
def obsYA (n : Nat) (fa : List He.Fa) (fn : List He.DefD) (ts : List He.Tab) (tf : List He.Defn) (sd : List SD) (ex : PySem.W.Frag → Bool) (g : Addr → Option Obj) : AlY := ((He.obsT fa fn ts (KA n g), exS sd ex (KA n g) && He.tabsB g tf (KA n g)), sd.map fun d => fnA (KA n g) (sdA (KA n g) d))
theorem saysYA_of {n : Nat} {fa : List He.Fa} {fn : List He.DefD} {ts : List He.Tab} {tf : List He.Defn} {sd : List SD} {ex : PySem.W.Frag → Bool} {w : World} {h : Heap} (e : obsYA n fa fn ts tf sd ex h.get? = (He.valX fn ts w, sd.map fun (d : SD) => He.DefD.val d.2)) : SaysY fa fn ts tf sd ex w h (KA n h.get?) := by
  have e0 := congrArg (fun z : AlY => z.1) e
  have e1 : He.obsT fa fn ts (KA n h.get?) = He.valT fn ts w := congrArg (fun z : He.AlX => z.1) e0
  have e2 : (exS sd ex (KA n h.get?) && He.tabsB h.get? tf (KA n h.get?)) = true := congrArg (fun z : He.AlX => z.2) e0
  obtain ⟨h1, h2⟩ := He.ba e2
  have key : ∀ p ∈ tf, PySem.W.codeHdIn (KA n h.get?) (He.cT (KA n h.get?) p).1 (He.cT (KA n h.get?) p).2 = true ∧ ∃ o, h.get? (He.cT (KA n h.get?) p).2 = some o ∧ He.emptyTab o = true := fun p hp => by
    obtain ⟨h3, h4⟩ := He.ba (List.all_eq_true.mp h2 p hp)
    refine ⟨h3, ?_⟩
    cases q : h.get? (He.cT (KA n h.get?) p).2 with
    | none => rw [q] at h4; cases h4
    | some o => rw [q] at h4; exact ⟨o, rfl, h4⟩
  refine ⟨⟨e1, h1, fun p hp => (key p hp).1, fun p hp => ?_, fun p hp => ?_⟩, congrArg (fun z : AlY => z.2) e⟩
  · obtain ⟨_, o, q, ht⟩ := key p hp
    exact He.frT_none q ht
  · obtain ⟨_, o, q, ht⟩ := key p hp
    rw [q, He.emptyTab_eq ht]
def hookYA (n : Nat) (fa : List He.Fa) (fn : List He.DefD) (ts : List He.Tab) (tf : List He.Defn) (sd : List SD) (ex : PySem.W.Frag → Bool) : PySem.W.Hook where
  α := AlY
  obs := fun s => obsYA n fa fn ts tf sd ex s.heap.get?
  val := fun w => (He.valX fn ts w, sd.map fun (d : SD) => He.DefD.val d.2)
  says := fun w h => ∃ K : PySem.W.Frag, K.In h ∧ SaysY fa fn ts tf sd ex w h K
  of := fun _ _ e => ⟨_, He.frT_in, saysYA_of e⟩
  keeps := fun _ _ _ ⟨K, hK, c⟩ k => ⟨K, PySem.W.Frag.In.keeps hK k, ⟨⟨c.x.t, c.x.more, c.x.hd, c.x.out, fun p hp => k _ _ (c.x.empty p hp)⟩, c.s⟩⟩
theorem obsYA_eq {n : Nat} {fa : List He.Fa} {fn : List He.DefD} {ts : List He.Tab} {tf : List He.Defn} {sd : List SD} {ex : PySem.W.Frag → Bool} {g : Addr → Option Obj} {s : Shared} (h : ∀ a, g a = s.heap.get? a) : obsYA n fa fn ts tf sd ex g = (hookYA n fa fn ts tf sd ex).obs s := by
  have e : g = s.heap.get? := funext h
  rw [e] <;> rfl
end DL
/-! The data layer, part n-g: a lambda with one parameter that has a default, called without arguments. -/
namespace DL
open PySem PySem.Spec PyProof.Rows L2 LamX
/-- one parameter of its own; else captured ones and globals -/
structure LamP (N : List Str) (sc scope : Scope) (p : Str) : Prop where
  kind : scope.kind = .function
  co : scope.isCoroutine = false
  gen : scope.isGenerator = false
  own : ∀ y ∈ scope.names, y.2 ≠ .cell ∧ (y.2 = .local → y.1 ∉ N)
  loc : scope.names.lookup p = some .local
  free : ∀ y ∈ scope.names, y.2 = .free → sc.names.lookup y.1 = some .cell ∨ sc.names.lookup y.1 = some .free
def lamPB (N : List Str) (sc scope : Scope) (p : Str) : Bool :=
  decide (scope.kind = .function) && !scope.isCoroutine && !scope.isGenerator && decide (scope.names.lookup p = some .local) && scope.names.all fun y => !decide (y.2 = .cell) && (!decide (y.2 = .local) || !decide (y.1 ∈ N)) && (!decide (y.2 = .free) || decide (sc.names.lookup y.1 = some .cell) || decide (sc.names.lookup y.1 = some .free))
theorem lamP_by {N : List Str} {sc scope : Scope} {p : Str} (h : lamPB N sc scope p = true) : LamP N sc scope p := by
  unfold lamPB at h
  simp only [Bool.and_eq_true, Bool.or_eq_true, Bool.not_eq_true', decide_eq_true_eq, decide_eq_false_iff_not, List.all_eq_true] at h
  obtain ⟨⟨⟨⟨h1, h2⟩, h3⟩, h5⟩, h4⟩ := h
  refine ⟨h1, h2, h3, fun y hy => ⟨(h4 y hy).1.1, fun e => ?_⟩, h5, fun y hy e => ?_⟩
  · rcases (h4 y hy).1.2 with z | z
    · exact absurd e z
    · exact z
  · rcases (h4 y hy).2 with (z | z) | z
    · exact absurd e z
    · exact .inl z
    · exact .inr z
theorem LamP.has {X : Cx} {scope : Scope} {p : Str} (L : LamP X.N X.env.scope scope p) (ok : X.Ok) : ∀ y ∈ scope.names, y.2 = .free → ∃ c, X.env.cells.lookup y.1 = some c := fun y hy e => by
  rcases L.free y hy e with k | k
  · exact ok.has _ (.inl k)
  · exact ok.has _ (.inr k)
abbrev lamO (q : Str) (params : Arguments) (body : Expr) (scope : Scope) (clo : List (Str × Addr)) (dV doc pm : Value) (c' : Addr) (ctv : Value) : Obj := PySem.W.kdv_obj "<lambda>" q params (.expr body) scope clo dV doc pm c' ctv
section
variable {X : Cx} {pins : List (Addr × Obj)} {σ : L2.St} {H HZ : Hp} {s s1 : Shared}
/-- the frames of the callers lie below -/
theorem fresh_fr (V : Inv X pins σ H s) {x : Addr} (hx : s.heap.objs.size ≤ x) : x ∉ frs X.stack := fun z =>
  (List.mem_cons.mp (V.stkSub _ z)).elim (fun e => Nat.lt_irrefl _ (Nat.lt_of_lt_of_le (e ▸ V.lt) hx)) (V.nofs hx)
/-- a code object more in the table at P -/
theorem tabs_more {T : List (Addr × Str)} {P c' : Addr} {q : Str} {vs : Array Value} {pos : Pos} (hu : ∀ p ∈ T, p.1 = P → p.2 = q) (hT : Tabs T H) (hP : H P = some (.tbl vs)) (ht : TriplesOk vs.toList) (hn : H c' = none) (hQ : ∀ p' cv, codeAmong p' vs.toList = some cv → ∃ c, cv = .ref c ∧ H c = some (CodeO c q)) :
    ExtN H (upd (upd H P (.tbl (vs ++ #[rawInt pos.line, rawInt pos.col, .ref c']))) c' (CodeO c' q)) ∧ Tabs T (upd (upd H P (.tbl (vs ++ #[rawInt pos.line, rawInt pos.col, .ref c']))) c' (CodeO c' q)) := by
  have ext : ExtN H (upd (upd H P (.tbl (vs ++ #[rawInt pos.line, rawInt pos.col, .ref c']))) c' (CodeO c' q)) := fun x o ex nt => by
    have hxP : x ≠ P := fun z => by subst z; rw [hP] at ex; exact nt vs (Option.some.inj ex).symm
    rw [upd_ne (ne_of_none ex hn), upd_ne hxP]; exact ex
  refine ⟨ext, fun p hp => ?_⟩
  rcases Classical.em (p.1 = P) with same | other
  · have app : (vs ++ #[rawInt pos.line, rawInt pos.col, .ref c']).toList = vs.toList ++ [rawInt pos.line, rawInt pos.col, .ref c'] := by simp
    rw [hu p hp same, same]
    refine ⟨vs ++ #[rawInt pos.line, rawInt pos.col, .ref c'], (upd_ne (ne_of_none hP hn)).trans upd_same, app ▸ PySem.TriplesOk_snoc _ _ _ _ ht, fun p' cv hcv => ?_⟩
    refine (among_app _ ht (app ▸ hcv)).elim (fun old => ?_) fun new => ⟨c', new, upd_same⟩
    exact (hQ p' cv old).imp fun c z => ⟨z.1, ext _ _ z.2 codeO_ne⟩
  · obtain ⟨ws, w1, w2, w3⟩ := hT p hp
    exact ⟨ws, by rw [upd_ne (ne_of_none w1 hn), upd_ne other]; exact w1, w2, fun p' cv hcv => (w3 p' cv hcv).imp fun c z => ⟨z.1, ext _ _ z.2 codeO_ne⟩⟩
theorem lam_tail {T : List (Addr × Str)} {c P : Addr} {params : Arguments} {body : Expr} {scope : Scope} {pos : Pos} {dV : Value} {E : Value → Shared → Prop} {Q : Value → Shared → Prop} (V : Inv X pins σ H s) (TB : TabB X.base X.mg c P) (hcode : X.env.code = .ref c)
    (hm : (P, X.env.qual ++ "<lambda>") ∈ T) (hu : ∀ p ∈ T, p.1 = P → p.2 = X.env.qual ++ "<lambda>") (hT : Tabs T H) (hfree : ∀ y ∈ scope.names, y.2 = .free → ∃ c, X.env.cells.lookup y.1 = some c)
    (k : ∀ (f c' : Addr) (doc pm ctv : Value) (H1 : Hp) (s' : Shared), Inv X pins σ H1 s' → ExtN H H1 → Tabs T H1 →
      s'.heap.get? f = some (lamO (X.env.qual ++ "<lambda>") params body scope (cloFrom X.env.cells scope.names []) dV doc pm c' ctv) → H1 f = none → f ∉ frs X.stack → H1 c' = some (CodeO c' (X.env.qual ++ "<lambda>")) →
      (∀ b o, s.heap.get? b = some o → H b = none → s'.heap.get? b = some o ∧ H1 b = none) → Q (.ref f) s') :
    wpAny (model X.prog X.w) X.A (makeTail "<lambda>" (X.env.qual ++ "<lambda>") params (.expr body) scope X.env dV .none none pos pos.line) Q E s := by
  obtain ⟨vs, tab, ord, among⟩ := hT _ hm
  have tabO : s.heap.get? P = some { cls := .none, data := .fields vs } := V.hok P _ tab
  match hc : codeAmong pos vs.toList with
  | some cv =>
    obtain ⟨c', rfl, hco⟩ := among pos cv hc
    exact PySem.W.kdv_makeTailHit (mg := X.mg) (c := c) (P := P) (closure_ok hfree) V.ok.glob (V.mod.glob.keeps V.bk) hcode (TB.code.keeps V.bk) tabO ord hc (TB.bm.keeps V.bk) fun ctv doc g tk keep le =>
      k g.objs.size c' doc _ ctv H _ (V.kept fun x o ex => Heap.get?_push_of_some _ (keep x o ex)) (ExtN.refl H) hT (Heap.get?_push_size _ rfl) (V.hok.fresh le) (fresh_fr V le) hco fun x o ex hn => ⟨Heap.get?_push_of_some _ (keep x o ex), hn⟩
  | none =>
    refine PySem.W.kdv_makeTail (mg := X.mg) (c := c) (P := P) (closure_ok hfree) V.ok.glob (V.mod.glob.keeps V.bk) hcode (TB.code.keeps V.bk) tabO ord hc TB.gP (TB.bm.keeps V.bk) fun c' ctv doc g tk but ge lt rec' tab' => ?_
    obtain ⟨_, oc, fs, t, ⟨⟩, hoc, hdt, hnm⟩ := rec'
    have le : s.heap.objs.size ≤ g.objs.size := Nat.le_trans ge (Nat.le_of_lt lt)
    have cn : H c' = none := V.hok.fresh ge
    obtain ⟨ext, tabs⟩ := tabs_more (pos := pos) hu hT tab ord cn among
    have V1 := inv_table (t' := tk) (more := #[rawInt pos.line, rawInt pos.col, .ref c']) (h' := g.push (lamO (X.env.qual ++ "<lambda>") params body scope (cloFrom X.env.cells scope.names []) dV doc ((X.mg "__name__").getD .none) c' ctv)) V tab
      (fun x o hx ex => Heap.get?_push_of_some _ (but x o hx ex)) (Heap.get?_push_of_some _ tab') ge ⟨oc, fs, t, Heap.get?_push_of_some _ hoc, hdt, hnm⟩
    have out : ∀ {x : Addr}, H x = none → x ≠ c' → upd (upd H P (.tbl (vs ++ #[rawInt pos.line, rawInt pos.col, .ref c']))) c' (CodeO c' (X.env.qual ++ "<lambda>")) x = none := fun {x} hx hc => by
      rw [upd_ne hc, upd_ne (fun z => by rw [z, tab] at hx; cases hx)]; exact hx
    exact k g.objs.size c' doc _ ctv _ _ V1 ext tabs (Heap.get?_push_size _ rfl) (out (V.hok.fresh le) (Nat.ne_of_gt lt)) (fresh_fr V le) upd_same fun x o ex hn =>
      ⟨Heap.get?_push_of_some _ (but x o (fun z => by rw [z, tab] at hn; cases hn) ex), out hn fun z => Nat.lt_irrefl _ (Nat.lt_of_lt_of_le (z ▸ Heap.lt_size ex) ge)⟩
theorem lam_make3 {T : List (Addr × Str)} {c P : Addr} {params : Arguments} {body e0 : Expr} {i0 : Int} {scope : Scope} {pos : Pos} {Q : Value → Shared → Prop} (I : Inv X pins σ H s) (TB : TabB X.base X.mg c P) (hcode : X.env.code = .ref c)
    (hm : (P, X.env.qual ++ "<lambda>") ∈ T) (hu : ∀ p ∈ T, p.1 = P → p.2 = X.env.qual ++ "<lambda>") (hT : Tabs T H) (hd1 : params.defaults = [e0]) (hk0 : params.kw_defaults = []) (he0 : PE X e0 (tC (.int i0))) (hfree : ∀ y ∈ scope.names, y.2 = .free → ∃ c, X.env.cells.lookup y.1 = some c)
    (h : ∀ (f c' t0 : Addr) (u0 doc pm ctv : Value) (H1 : Hp) (s' : Shared), Inv X pins σ H1 s' → ExtN H H1 → Tabs T H1 →
      s'.heap.get? f = some (lamO (X.env.qual ++ "<lambda>") params body scope (cloFrom X.env.cells scope.names []) (.ref t0) doc pm c' ctv) → H1 f = none → f ∉ frs X.stack →
      s'.heap.get? t0 = some (PySem.W.kdv_tup [u0]) → H1 t0 = none → t0 ∉ frs X.stack → H1 c' = some (CodeO c' (X.env.qual ++ "<lambda>")) → Q (.ref f) s') :
    wpAny (model X.prog X.w) X.A (eval (.Lambda params body scope pos) X.env) Q X.xe s := by
  refine PySem.W.kdv_lam (by rw [hd1]; rfl) hk0 ?_
  rw [hd1]
  refine PySem.W.kdv_all1 (thn (he0.run pins s σ H (fun v H1 => v = .int i0 ∧ H1 = H) I ⟨rfl, rfl⟩) fun u0 s0 ⟨v, H1, I0, r1, q1⟩ => ?_)
  obtain ⟨ev, eH⟩ := q1
  subst ev
  rw [eH] at I0
  refine PySem.W.kdv_all0 ?_
  rw [makeFunction_eq]
  simp only [List.zip_nil_right, List.filterMap_nil, List.isEmpty_nil, if_true, pure_bind, List.isEmpty_cons, Bool.false_eq_true, if_false]
  refine wpAny_bind (wpAny_newTextTuple ?_)
  have I1 : Inv X pins σ H { s0 with heap := s0.heap.push (PySem.W.kdv_tup [u0]) } := I0.kept fun b o e => Heap.get?_push_of_some _ e
  have t0n : H s0.heap.objs.size = none := I0.hok.fresh (Nat.le_refl _)
  have t0f : s0.heap.objs.size ∉ frs X.stack := fresh_fr I0 (Nat.le_refl _)
  have t0g : (s0.heap.push (PySem.W.kdv_tup [u0])).get? s0.heap.objs.size = some (PySem.W.kdv_tup [u0]) := Heap.get?_push_size _ rfl
  refine lam_tail I1 TB hcode hm hu hT hfree fun f c' doc pm ctv H1 s' I2 hE T1 hf hfn hfr hco kp => ?_
  obtain ⟨k1, k2⟩ := kp _ _ t0g t0n
  exact h f c' s0.heap.objs.size u0 doc pm ctv H1 s' I2 hE T1 hf hfn hfr k1 k2 t0f hco
theorem lam_start3 {A : Around} {outer : List Env} {E : XK} {scope : Scope} {p : Str} {f c' : Addr} {g : Heap} {tk : Nat} {bs : List (Str × Value)} (V : Inv X pins σ H s) (L : LamP X.N X.env.scope scope p) (e0 : Env0 X.prog X.w X.K X.mg X.base A outer s1 HZ) (hd : A.handled = none)
    (un : Un (frs X.stack) [] H HZ s.heap s1.heap) (loc : g.Ns s1.heap.objs.size fun y => bs.reverse.lookup y) (kp : ∀ b o, s1.heap.get? b = some o → g.get? b = some o) :
    Inv (lamCx X A outer s1 HZ E scope f c') [] σ HZ { s1 with heap := g, toks := tk } := by
  have outC : ∀ {y c}, (cloFrom X.env.cells scope.names []).lookup y = some c → X.env.cells.lookup y = some c := fun {y c} e => by
    rcases cloFrom_mem (PySem.mem_of_lookup e) with z | ⟨z1, z2⟩
    · exact absurd z (by simp)
    · obtain ⟨d, hd⟩ := L.has V.ok _ z1 rfl
      have hd' : X.env.cells.lookup y = some d := hd
      rw [z2, hd'] <;> rfl
  have inC : ∀ {y}, scope.names.lookup y = some .free → ∃ c, (cloFrom X.env.cells scope.names []).lookup y = some c := fun {y} e => mem_lookup (cloFrom_has (cells := X.env.cells) (acc := []) (PySem.mem_of_lookup e : (y, NameKind.free) ∈ scope.names))
  have still : ∀ {c : Addr} {v : Option Value}, H c = none → s.heap.IsCell c v → g.IsCell c v := by
    rintro c v hn ⟨o, ho, hdt⟩
    obtain ⟨sl, e⟩ := un.any ho hn (by simp)
    exact ⟨_, kp _ _ e, hdt⟩
  have none' : ∀ b : Addr, b ∉ (lamCx X A outer s1 HZ E scope f c').ex := fun b => List.not_mem_nil
  exact {
    ok := {
      mod := e0.mod
      kind := L.kind
      glob := rfl
      blt := rfl
      above := Nat.le_refl _
      inj := fun y z c e1 e2 => V.ok.inj y z c (outC e1) (outC e2)
      has := fun y hy => (show scope.names.lookup y = some .cell ∨ scope.names.lookup y = some .free from hy).elim (fun e => absurd rfl (L.own _ (PySem.mem_of_lookup e)).1) inC
      cab := fun y c z => absurd (show false = true from z) (by decide)
      hd := fun _ => hd
      frames := Around.frames_deeper e0.frames
      stk := .inr ⟨rfl, rfl⟩
      exf := fun b z => absurd z (none' b)
      bs := e0.bs
      bsz := e0.bsz
      noex := fun b _ _ => none' b
      exfs := fun b z => absurd z (none' b)
      funs := e0.funs
      frf := e0.frf }
    os := rfl
    bare := e0.bare
    base := Un.kept kp
    loc := ⟨_, loc, fun i y v e1 e2 e3 => by
      rcases (show Vis scope y from e3) with z | z | z
      · exact absurd (List.mem_of_getElem? (show X.N[i]? = some y from e1)) ((L.own _ (PySem.mem_of_lookup z)).2 rfl)
      · exact absurd rfl (L.own _ (PySem.mem_of_lookup z)).1
      · have up := L.free _ (PySem.mem_of_lookup z) rfl
        obtain ⟨m, _, all⟩ := V.loc
        obtain ⟨u, hu, how⟩ := all i y v e1 e2 (up.elim (fun e => .inr (.inl e)) fun e => .inr (.inr e))
        obtain ⟨c, hc⟩ := inC z
        refine ⟨u, hu, .inr ⟨.inr z, c, hc, ?_⟩⟩
        rcases how with ⟨here, _⟩ | ⟨_, d, hd', cell⟩
        · have here : X.env.scope.names.lookup y = some .local := here
          rcases up with e | e <;> (have e : X.env.scope.names.lookup y = _ := e; rw [here] at e; cases e)
        · obtain rfl : c = d := Option.some.inj ((outC hc).symm.trans hd')
          exact still (V.freeC y c (outC hc)) cell⟩
    cell := fun y c e => (V.cell y c (outC e)).imp fun _ z => still (V.freeC y c (outC e)) z
    free := e0.hok.fresh (Nat.le_refl _)
    freeC := fun y c e => by
      obtain ⟨v, o, ho, _⟩ := V.cell y c (outC e)
      exact un.free c o ho (V.freeC y c (outC e)) (by simp)
    pin := fun q hq => absurd (show q ∈ ([] : List (Addr × Obj)) ++ [] from hq) (by simp)
    hok := e0.hok.kept kp
    len := V.len }
theorem pe_actD {CXg : CXT} {Eg : XK} {Ng : List Str} {qg : Str} {sg : Scope} {g f c' t0 : Addr} {u0 doc cdg pm ctv : Value} {params : Arguments} {body : Expr} {scope : Scope} {p : Str} {k i : Nat} {a : Str} {pn : List (Addr × Obj)} {xe : Value → Shared → Prop} {W : WX} {E : XK} {tb : TE} {p1 p2 : Pos}
    (I : Inv X pins σ H s) (L : LamP X.N X.env.scope scope p) (hf : s.heap.get? f = some (lamO (X.env.qual ++ "<lambda>") params body scope (cloFrom X.env.cells scope.names []) (.ref t0) doc pm c' ctv)) (hfn : H f = none) (hfr : f ∉ frs X.stack)
    (ht0 : s.heap.get? t0 = some (PySem.W.kdv_tup [u0])) (htn : H t0 = none) (htr : t0 ∉ frs X.stack)
    (hbind : ∃ k, bindArgs (PySem.W.kdv_fn "<lambda>" (X.env.qual ++ "<lambda>") params (.expr body) scope (cloFrom X.env.cells scope.names []) (.ref t0) doc pm (.ref c') ctv) ⟨[], []⟩ = (seqItems? (.ref t0) >>= k) ∧ ∀ u : Value, k (some [u].toArray) = pure [(p, u)])
    (tk : L2N.Takes ((cxOf CXg X.prog X.w X.K X.mg X.base Ng qg sg g cdg X.A X.stack s H Eg).tr pn xe) W) (hW : ∀ cls d σ' H', E cls d H' → W cls d σ' H') (hr : Room (k + 1) (X.A.deeper (envOfC qg sg s.heap.objs.size g cdg)))
    (hbody : ∀ (A : Around) (outer : List Env) (s : Shared) (H : Hp), Room k (A.deeper (lamEnv X scope s.heap.objs.size f c')) → PE (lamN X A outer s H E scope f c') body tb)
    (hN : Ng[i]? = some a) (hv : Vis sg a) (hd : (a == ("__debug__" : Str)) = false) (hcd : (a == ("__classdict__" : Str)) = false) :
    PE ((cxOf CXg X.prog X.w X.K X.mg X.base Ng qg sg g cdg X.A X.stack s H Eg).tr pn xe) (.Call (.Name a p1) [] [] p2)
      (fun σZ HZ Q => σZ[i]? = some (some (.ref f)) ∧ HZ c' = some (CodeO c' (X.env.qual ++ "<lambda>")) ∧ tb σ HZ Q) := by
  refine ⟨fun pinsZ sZ σZ HZ Q IZ h => ?_⟩
  obtain ⟨hs, hc, ht⟩ := h
  refine wpAny_Call_Name_kw (thn ((pe_var (pos := p1) (i := i) hN hv hd hcd).run pinsZ sZ σZ HZ (fun v H1 => v = .ref f ∧ H1 = HZ) IZ ⟨.ref f, hs, rfl, rfl⟩) fun u s1 ⟨v, H1, I1, r1, q1⟩ => ?_)
  obtain ⟨ev, eH⟩ := q1
  subst ev
  rw [eH] at I1
  obtain rfl : u = Value.ref f := r1
  have of1 : s1.heap.get? f = some (lamO (X.env.qual ++ "<lambda>") params body scope (cloFrom X.env.cells scope.names []) (.ref t0) doc pm c' ctv) := I1.base.keep f _ hf hfn hfr (fun z => nomatch (show f ∈ ([] : List Addr) from z))
  have ot1 : s1.heap.get? t0 = some (PySem.W.kdv_tup [u0]) := I1.base.keep t0 _ ht0 htn htr (fun z => nomatch (show t0 ∈ ([] : List Addr) from z))
  refine PySem.W.callWith_F0 ⟨_, _, _, _, of1⟩ ?_
  obtain ⟨⟨oc, vs, t, hoc, hdc, hvc⟩, _, _⟩ := I1.hok c' _ hc
  obtain ⟨kk, hb1, hb2⟩ := hbind
  have rc : codeAny (model X.prog X.w) (X.A.deeper (envOfC qg sg s.heap.objs.size g cdg)) (.call (.ref f) ⟨[], []⟩) (CR (L2N.CX X.prog X.w) (envOfC qg sg s.heap.objs.size g cdg :: X.stack) X.prog X.w HZ s1 Q E) s1 := by
    refine PySem.W.kla_callFunE hr.depth of1 rfl L.co L.gen rfl ⟨c', oc, vs, t, rfl, hoc, hdc, hvc⟩ ?_
    refine (BindsTo.of_defaults (s := s1) (binds := [(p, u0)]) rfl ot1 rfl hb1 (hb2 u0)) _ _ _ _ ?_
    refine wpAny_newFunctionEnv (fun y hy => (L.own y hy).1) (fun y hy => by rw [List.mem_singleton] at hy; rw [hy]; exact L.loc) (fun h₁ hns hsb => ⟨I1.nolimit.fresh _ hsb, ?_⟩) L.kind
    show codeAny _ _ (.expr body (lamEnv X scope s1.heap.objs.size f c')) _ _
    have kp : ∀ b o, s1.heap.get? b = some o → h₁.get? b = some o := fun b o e => hsb.extBut b o (Nat.ne_of_lt (Heap.lt_size e)) (Heap.get?_push_of_some _ e)
    have J0 := lam_start3 (A := X.A.deeper (envOfC qg sg s.heap.objs.size g cdg)) (outer := envOfC qg sg s.heap.objs.size g cdg :: X.stack) (s1 := s1) (HZ := HZ) (E := E) (scope := scope) (f := f) (c' := c') (tk := s1.toks + [(p, u0)].length) I L I1.env0 hr.hd I1.base hns kp
    have J : Inv (lamN X (X.A.deeper (envOfC qg sg s.heap.objs.size g cdg)) (envOfC qg sg s.heap.objs.size g cdg :: X.stack) s1 HZ E scope f c') [] σ HZ { s1 with heap := h₁, toks := s1.toks + [(p, u0)].length } := J0.wish _
    refine PySem.W.kla_codeExpr (wpAny_mono ((hbody _ _ s1 HZ (hr.deeper _)).run [] _ _ HZ Q J ht) (fun v s' hq => ?_) fun e s' hq => hq)
    obtain ⟨w', H', J', rv, q⟩ := hq
    exact ⟨w', H', J'.os, J'.bare, J'.base, J'.hok, rv, q⟩
  refine wpAny_call (codeAny_mono rc fun r s' hq => ?_)
  cases r with
  | error e => exact L2N.passes_call tk hW pinsZ σZ HZ s1 e s' I1 hq
  | ok fl =>
    cases fl with
    | ret u => exact I1.after hq
    | next => exact False.elim hq
    | brk => exact False.elim hq
    | cont => exact False.elim hq
end
section
variable {X : Cx} {c : Wd} {cl : Str → Addr} {tb : List (Addr × Str)} {x a : Str} {st : Stmt} {g cc Pt : Addr} {fd : FuncData} {Ng : List Str} {k : Nat} {params : Arguments} {body e0 : Expr} {i0 : Int} {lp : Str} {scope : Scope} {tL : DXK → DE} {tG : Addr → DAct → DS} {TT : DAct → Mu → DK → Prop} {p lpos pos : Pos}
theorem pd_lamD (hcc : Cc cl tb c) (htb : (Pt, X.env.qual ++ "<lambda>") ∈ tb) (hu : ∀ p ∈ tb, p.1 = Pt → p.2 = X.env.qual ++ "<lambda>") (F : FunD X.K x x (defArgs st) (defBody st) (defScope st) [] [] g fd) (hm : X.mg x = some (.ref g)) (hb : L2.Binds X.K fd [a] []) (Sg : FnScope Ng [a] (defScope st))
    (hG : ∀ (cdv : Value) (s : Shared) (H : Hp) (f : Addr) (cg : Wd) (tl : DAct), Cc cl tb cg → Room (k + 1) (X.A.deeper (envOfC x (defScope st) s.heap.objs.size g cdv)) →
      (∀ (cb : Wd) (E' : DXK) (pn : List (Addr × Obj)) (xe : Value → Shared → Prop) (p1 p2 : Pos), Cc cl tb cb → Kp cg cb → Tk cb ((cxOf CX0 X.prog X.w X.K X.mg X.base Ng x (defScope st) g cdv X.A X.stack s H E0).tr pn xe) E' →
        PD cb ((cxOf CX0 X.prog X.w X.K X.mg X.base Ng x (defScope st) g cdv X.A X.stack s H E0).tr pn xe) (.Call (.Name a p1) [] [] p2) (dAct f tl E')) →
      PDSs cg (cxOf CX0 X.prog X.w X.K X.mg X.base Ng x (defScope st) g cdv X.A X.stack s H E0) (defBody st) (tG f tl))
    (hT : ∀ f tl M Q, TT tl M Q → tG f tl { nx := fun _ M' => Q .non M', rt := Q } (startD Ng [.ref f]) M)
    (TB : TabB X.base X.mg cc Pt) (hcode : X.env.code = .ref cc) (hr : Room (k + 2) X.A) (L : LamP X.N X.env.scope scope lp)
    (hbody : ∀ (A : Around) (outer : List Env) (s : Shared) (H : Hp) (E : XK) (f c' : Addr) (cL : Wd) (E' : DXK), Cc cl tb cL → Tk cL (lamN X A outer s H E scope f c') E' → Room k (A.deeper (lamEnv X scope s.heap.objs.size f c')) → PD cL (lamN X A outer s H E scope f c') body (tL E'))
    (he0 : PE X e0 (tC (.int i0))) (hdef : params.defaults = [e0] := by rfl) (hk0 : params.kw_defaults = [] := by rfl) (hbind : ∀ (q : Str) (cl : List (Str × Addr)) (t0 : Addr) (doc pm cv ctv : Value), ∃ k, bindArgs (PySem.W.kdv_fn "<lambda>" q params (.expr body) scope cl (.ref t0) doc pm cv ctv) ⟨[], []⟩ = (seqItems? (.ref t0) >>= k) ∧ ∀ u : Value, k (some [u].toArray) = pure [(lp, u)] := by intros; exact ⟨_, rfl, fun _ => rfl⟩)
    (hg : Gl X x := by rfl) (hNg : Ng[0]? = some a := by rfl) (hva : Vis (defScope st) a := by first | exact Or.inl rfl | exact Or.inr (Or.inl rfl) | exact Or.inr (Or.inr rfl)) (hdb : (x == ("__debug__" : Str)) = false := by decide) (hd : (a == ("__debug__" : Str)) = false := by decide) (hcd : (a == ("__classdict__" : Str)) = false := by decide) :
    PD c X (.Call (.Name x p) [.Lambda params body scope lpos] [] pos) (dLam TT tL) := by
  refine ⟨fun pins s σ H Q I ⟨ρ, w, Q', hH, at0, h, kw⟩ => ?_⟩
  subst hH
  obtain ⟨oc, od, dV, kV, doc, pm, an, cdv, ct, osl, rfl, lk, hcg, _, _⟩ := F.ex
  refine wpAny_Call_Name_kw (ld_glob I hg hm ?_ hdb)
  refine PySem.W.callWith_K (h₀ := X.base) I.ok.mod.kin F.kp ?_ (by rfl) (by rfl)
  show wpAny _ _ (spliced ((false, eval (.Lambda params body scope lpos) X.env) :: backTo pos (starEach [] X.env))) _ _ s
  have tbw : w.tb = tb := at0.kp.tb.trans hcc.tb
  refine Calls.spliced_cons (lam_make3 (T := w.tb) I TB hcode (by rw [tbw]; exact htb) (by rw [tbw]; exact hu) at0.ok.tabs hdef hk0 he0 (L.has I.ok) fun f c' t0 u0 doc pm' ctv H1 s' I1 eN T1 hf hfn hfr ht0 htn htr hco => ?_)
  refine Calls.spliced_nil ⟨I1.kIn, ?_⟩
  -- the world behind
  have kp1 : Kp w (w.at H1) := Kp.of (fun b u hm e n => ⟨hm.at, eN b u e n⟩) (fun r b u e => ⟨e, fun q => by
    obtain ⟨xs, rfl⟩ := at0.ok.ll r b u e
    exact eN b _ q (fun ps z => by cases z)⟩) rfl rfl rfl
  have ok1 : Ok X.K (w.at H1) := ⟨fun b m e => by
      obtain ⟨u, q, n1, _⟩ := at0.ok.plain e
      exact (at0.ok.mo b m e).mono kp1 (by show H1 b = _; rw [eN b u q n1, q]),
    fun b u e => by
      obtain ⟨xs, rfl⟩ := at0.ok.hl b u e
      exact eN b _ (at0.ok.hid b _ e) (fun ps z => by cases z), at0.ok.ap, fun r b u e => by
      obtain ⟨xs, rfl⟩ := at0.ok.ll r b u e
      exact eN b _ (at0.ok.len r b _ e) (fun ps z => by cases z), at0.ok.lap, at0.ok.lfr, at0.ok.hl, at0.ok.ll, T1⟩
  have b1 : Bh X.K w (w.at H1) := ⟨kp1, ok1, rfl, rfl⟩
  have fc' : Fr (w.at H1) c' := by
    have hco' : (w.at H1).H c' = some (.ext _) := hco
    refine ⟨?_, ?_, fun r => ?_⟩
    · cases e : (w.at H1).M c' with
      | none => rfl
      | some m =>
        obtain ⟨u, q, _, n2⟩ := ok1.plain e
        rw [hco'] at q
        exact absurd (Option.some.inj q).symm (n2 _)
    · cases e : (w.at H1).hd c' with
      | none => rfl
      | some u =>
        obtain ⟨xs, rfl⟩ := ok1.hl c' u e
        have q := ok1.hid c' _ e
        rw [hco'] at q; cases q
    · cases e : (w.at H1).ln r c' with
      | none => rfl
      | some u =>
        obtain ⟨xs, rfl⟩ := ok1.ll r c' u e
        have q := ok1.len r c' _ e
        rw [hco'] at q; cases q
  have at1 := at0.next b1
  have w1cc : Cc cl tb (w.at H1) := hcc.sc (at0.kp.trans kp1).sc
  have rc : codeAny (model X.prog X.w) X.A (.call (.ref g) ⟨[.ref f], []⟩) (CR CX0 X.stack X.prog X.w H1 s' Q E0) s' := by
    refine run_ofS (k := k + 1) (N := Ng) (ps := [a]) (us := [.ref f]) (vs := [.ref f]) lk hcg Sg hr I1.env0 (hb s' [.ref f] I1.kIn rfl) (.cons rfl .nil) rfl fun hr' => ?_
    refine ⟨_, hG cdv s' H1 f (w.at H1) (fun E M' Q' => tL E ρ M' Q') w1cc hr' (fun cb E' pn xe p1 p2 bcc bkp btk => ?_), ?_⟩
    · -- the call of the lambda
      have act := pe_actD (E := XKof X.K cb E') (tb := fun σ H Q => ∃ cL : Wd, Cc cl tb cL ∧ Bh X.K cb cL ∧ lift X.K cL (tL E') σ H Q) (p1 := p1) (p2 := p2) (i := 0) I1 L hf hfn hfr ht0 htn htr (hbind _ _ _ _ _ _ _) btk (fun _ _ _ _ h => h) hr'
        (fun A outer s2 H2 hr2 => ⟨fun pins2 s3 σ3 H3 Q3 I3 ⟨cL, e1, e3, q⟩ => (hbody A outer s2 H2 _ f c' cL E' e1 (tkL fun n fs w' dd vs ee b' fr hx r => ⟨n, fs, w', dd, vs, by rw [e3.kp.cl], rfl, rfl, e3.trans b', fr, hx, r, ee⟩) hr2).run pins2 s3 σ3 H3 Q3 I3 q⟩) hNg hva hd hcd
      refine PE_imp act fun σZ HZ QZ ⟨ρZ, wZ, QZ', hHZ, aZ, ⟨h0, hq⟩, kZ⟩ => ?_
      subst hHZ
      have kpZ : Kp (w.at H1) wZ := bkp.trans aZ.kp
      obtain ⟨v0, e0, r0⟩ := aZ.re.2 0 _ h0
      obtain rfl : v0 = .ref f := r0
      refine ⟨e0, ?_, wZ, bcc.sc aZ.kp.sc, aZ.bh, ρ, wZ, QZ', rfl, ⟨Kp.refl _, at1.re.mono kpZ, aZ.ok, rfl, rfl⟩, hq, kZ⟩
      obtain ⟨_, u, q1, q2⟩ := kpZ.fr c' _ fc' hco (fun ps z => by cases (show HO.ext _ = HO.tbl ps from z))
      rw [q1, unl_ext (φ := _) (show unl u = .ext _ from q2)]
      rfl
    · exact ⟨startD Ng [.ref f], w.at H1, _, rfl, ⟨Kp.refl _, RE.start ⟨_, _, rfl, rfl, rfl⟩, ok1, rfl, rfl⟩, hT f _ _ Q' h, { nx := fun ρ' w' σ' q b a => (kw.back b1) .non w' .non q b rfl, rt := kw.back b1, bk := fun _ _ _ q => q.elim, ct := fun _ _ _ q => q.elim }⟩
  refine wpAny_call (codeAny_mono rc fun r s2 hq => ?_)
  cases r with
  | error e => exact (show False from hq).elim
  | ok fl =>
    cases fl with
    | ret u => exact I1.after hq
    | next => exact False.elim hq
    | brk => exact False.elim hq
    | cont => exact False.elim hq
end
end DL
/-! The data layer, part n-h: enumerate over lists and tuples. -/
namespace DL
open PySem PySem.Spec PyProof.Rows L2
abbrev enO (it : Addr) : Obj := { cls := .type "enumerate", data := .fields #[.none, .bool false, .ref it, rawInt 0, .none, .none] }
theorem en_meets {v : Value} {o : Obj} {G : Heap → Prop} (B : Begins v o G) :
    Meets (Builtin.«enumerate.__new__» ⟨[.type "enumerate", v], []⟩) (fun _ R s => G s.heap ∧ R (.ok (.ret (.ref (s.heap.push o).objs.size))) { s with heap := (s.heap.push o).push (enO s.heap.objs.size) }) :=
  .of_wp fun prog w A R s h => by
    obtain ⟨hp, g, d, tk, os⟩ := s
    have hsub := sub_enumerate
    have itr : ∀ {A' : Around} {E : Value → Shared → Prop} {Q : Value → Shared → Prop}, Q (.ref hp.objs.size) ⟨hp.push o, g, d, tk, os⟩ → wpAny (model prog w) A' (pyIter v) Q E ⟨hp, g, d, tk, os⟩ := fun q => B.iter prog w _ _ ⟨hp, g, d, tk, os⟩ _ h.1 q
    wp_walk using itr
    refine wpAny_stack_any fun st => wpAny_pure ?_
    split
    · rename_i c _ _ _ _ _
      cases (c == Value.type "enumerate") <;> (wp_walk using itr; exact ⟨_, rfl, h.2⟩)
    · wp_walk using itr; exact ⟨_, rfl, h.2⟩
section
variable {prog : Program} {w : World} {A : Around} {E : Value → Shared → Prop} {s : Shared}
theorem en_call {v : Value} {o : Obj} {G : Heap → Prop} {Q : Value → Shared → Prop} (B : Begins v o G) (h1 : G s.heap)
    (h : ∀ h', IsEnum h' (s.heap.objs.size + 1) s.heap.objs.size 0 .none → h'.get? s.heap.objs.size = some o → (∀ b o, s.heap.get? b = some o → h'.get? b = some o) → Q (.ref (s.heap.objs.size + 1)) { s with heap := h' }) :
    wpAny (model prog w) A (call (.type "enumerate") [v]) Q E s := by
  refine callType_new F.called_enumerate (by decide) (F.typeCall_enumerate_1 _) (F.newCall_enumerate_1 _) (fun obj => F.args_object_init_2 obj _) F.entry_enumerate_new (en_meets B) ⟨h1, ?_⟩
  have hz : (s.heap.push o).objs.size = s.heap.objs.size + 1 := Heap.size_push ..
  have he : IsEnum ((s.heap.push o).push (enO s.heap.objs.size)) (s.heap.objs.size + 1) s.heap.objs.size 0 .none := by
    have := Heap.get?_push_size (s.heap.push o) (o := enO s.heap.objs.size) rfl
    rw [hz] at this; exact this
  show _ ∧ _
  rw [hz]
  exact ⟨⟨_, he, rfl⟩, h _ he (Heap.get?_push_of_some _ (Heap.get?_push_size _ B.free)) fun b o x => Heap.get?_push_of_some _ (Heap.get?_push_of_some _ x)⟩
end
/-- the tuple at a, each item in a new pair -/
def Itet (K : PySem.W.Frag) (a : Addr) : It :=
  ⟨fun i H => ∃ (xs : List V) (x : V), SqT K H a xs ∧ xs[i]? = some x, fun i H v H' => ∃ T x, v = .ref T ∧ H T = none ∧ H' = upd H T (.tup [.int (i : Nat), x]) ∧ ∀ xs, SqT K H a xs → xs[i]? = some x, fun i H => ∃ xs : List V, SqT K H a xs ∧ xs.length = i⟩
theorem apart {s : Heap} {e a it : Addr} {i : Int} {old : Value} {its : Array Value} (he : IsEnum s e it i old) (p : s.IsTuple a its) : e ≠ a := fun z => by
  obtain ⟨o, ho, hc, _⟩ := p
  subst z
  have he : s.get? e = some _ := he
  rw [he] at ho; cases ho
  exact absurd (show Value.type "enumerate" = Value.type "tuple" from hc) (by decide)
theorem apart2 {s : Heap} {a it : Addr} {i : Nat} {its : Array Value} (hi : s.IsTupleIter it a i) (p : s.IsTuple a its) : a ≠ it := fun z => by
  obtain ⟨o, ho, hc, _⟩ := p
  obtain ⟨o', ho', hc', _⟩ := hi
  subst z
  rw [ho] at ho'; cases ho'; rw [hc] at hc'
  exact absurd hc' (by decide)
theorem turn_et {P : Program} {w : World} {K : PySem.W.Frag} {elts : List Expr} {kk : Nat} {tpos : Pos} (a e it : Addr) :
    Turn P w K (.Tuple elts kk tpos) (Itet K a) [e, it] e (fun i h => (∃ old, IsEnum h e it ((i : Nat) : Int) old) ∧ h.IsTupleIter it a i ∧ e ≠ it) where
  mem := by simp
  obj := fun i h st b hb => by
    obtain ⟨⟨old, he⟩, ⟨o, ho, hc, hd⟩, _⟩ := st
    simp only [List.mem_cons, List.not_mem_nil, or_false] at hb
    rcases hb with rfl | rfl
    · exact ⟨_, he, fun v q => nomatch q⟩
    · exact ⟨o, ho, fun v q => by rw [hd] at q; cases q⟩
  keep := fun i h h' st k => let ⟨⟨old, he⟩, hi, hne⟩ := st; ⟨⟨old, k e (by simp) _ he⟩, hi.at fun o q => k it (by simp) o q, hne⟩
  item := by
    rintro X rfl rfl rfl hc i pins s σ H E I hf ⟨⟨old, he⟩, hit, hne⟩ ⟨xs, x, hq, hx⟩
    obtain ⟨its, rv, p, hz⟩ := I.tuple hq
    have p : s.heap.IsTuple a its.toArray := p
    obtain ⟨u, hu, ru⟩ := rv.get hx
    have hlt : i < its.toArray.size := by
      have := (List.getElem?_eq_some_iff.mp hu).1
      simpa using this
    have D := Draws.tuple (prog := X.prog) (w := X.w) (A := X.A.in1) (show X.A.in1.handled = none from I.ok.hd hc) it a (apart2 hit p) its.toArray
    refine wpAny_pyNext_enum_itemD D he ⟨hit, p⟩ hlt hne (by simp only [List.mem_cons, List.not_mem_nil, or_false]; exact fun z => z.elim hne (apart he p)) fun y h' tk hy ho hit' hT hsz hk => ?_
    obtain rfl : y = u := by
      have hy : its.toArray[i]? = some y := hy
      rw [List.getElem?_toArray, hu] at hy; exact (Option.some.inj hy).symm
    refine ⟨_, rfl, wpAny_letOwnedTupleGo_enum (s := { s with heap := h', toks := tk + 1 }) ho fun h'' he' sb => ?_⟩
    have hel : e < s.heap.objs.size := Heap.lt_size he
    have hil : it < s.heap.objs.size := by obtain ⟨_, q, _⟩ := hit; exact Heap.lt_size q
    have hT2 : h''.get? s.heap.objs.size = some { cls := .type "tuple", data := .seq #[.int i tk, y] } := (sb.2 _ (Nat.ne_of_gt hel)).trans hT
    have I1 := I.turnedNew (t' := tk + 1) (h' := h'') (T := s.heap.objs.size) (ob := .tup [.int (i : Nat), x]) (ch := [e, it]) (fun b ob hb q => (sb.2 b (fun z => hb (by simp [z]))).trans (hk b ob (fun z => hb (by simp [z])) (fun z => hb (by simp [z])) q)) hf (Nat.le_refl _)
      ⟨by show 2 ≤ sizeLine; decide, [.int i tk, y], .cons ⟨_, rfl⟩ (.cons ru .nil), ⟨_, hT2, rfl, _, rfl⟩⟩
    refine ⟨.ref s.heap.objs.size, _, I1, rfl, ⟨_, x, rfl, I.hok.fresh (Nat.le_refl _), rfl, fun ys hy => by rw [I.tuple_inj hy hq]; exact hx⟩, ⟨⟨y, ?_⟩, hit'.1.at fun o q => (sb.2 it (Ne.symm hne)).trans q, hne⟩, fun b hb => ?_⟩
    · rw [show ((i + 1 : Nat) : Int) = (i : Int) + 1 by omega]; exact he'
    · have hf' := (hf b hb).1
      simp only [List.mem_cons, List.not_mem_nil, or_false] at hb
      rw [upd_ne (hb.elim (fun z => by rw [z]; exact Nat.ne_of_lt hel) fun z => by rw [z]; exact Nat.ne_of_lt hil)]
      exact hf'
  done := by
    rintro X rfl rfl rfl hc i pins s σ H E I hf ⟨⟨old, he⟩, hit, hne⟩ ⟨xs, hq, hx⟩
    obtain ⟨its, rv, p, hz⟩ := I.tuple hq
    have p : s.heap.IsTuple a its.toArray := p
    obtain ⟨f0, f1, f2, f3, f4, f5⟩ := hf it (by simp)
    have D := Draws.tuple (prog := X.prog) (w := X.w) (A := X.A.in1) (show X.A.in1.handled = none from I.ok.hd hc) it a (apart2 hit p) its.toArray
    have hl : its.toArray.size = i := by have := rv.length; simp; omega
    exact wpAny_pyNext_enum_endD D he ⟨by rw [hl]; exact hit, p⟩ fun h' eb => ⟨rfl, I.turned (t' := s.toks) (fun b o hb q => eb b o hb q) f0 f1 f3 f4 f5⟩
  self := fun A i s Q E st h => let ⟨⟨_, he⟩, _⟩ := st; wpAny_pyIter_enum he h
def iEnT (K : PySem.W.Frag) (ta : TA) : TI := fun σ H R => ta σ H fun vs H1 => ∃ a xs, vs = [.ref a] ∧ ((SqL K H1 a xs ∧ R (Ite K a) H1) ∨ (SqT K H1 a xs ∧ R (Itet K a) H1))
theorem pi_enT {X : Cx} {e : Expr} {ta : TA} {p pos tpos : Pos} {elts : List Expr} {kk : Nat} (hg : Gl X "enumerate") (hm : X.mg "enumerate" = none) (ha : PA X [e] ta) (hs : starEach [e] X.env = [(false, eval e X.env)] := by rfl) :
    PI X (.Tuple elts kk tpos) (.Call (.Name "enumerate" p) [e] [] pos) (iEnT X.K ta) := by
  refine ⟨fun pins s σ H R I h => ?_⟩
  refine Call_ (ld_blt I hg hm boot_enumerate (PyProof.Rows.callWith_type1 (thn (ha.run pos pins s σ H _ I h) fun us s1 ⟨vs, H1, I1, r1, a, xs, ex, q1⟩ => ?_) hs rfl))
  subst ex
  cases r1 with
  | cons r rr =>
    cases rr
    cases r
    have two : ∀ b ∈ [s1.heap.objs.size + 1, s1.heap.objs.size], FpOk X pins H1 b := fun b hb => by
      have hle : s1.heap.objs.size ≤ b := by simp only [List.mem_cons, List.not_mem_nil, or_false] at hb; omega
      exact I1.fpOk hle (I1.hok.fresh hle)
    rcases q1 with ⟨hq, q⟩ | ⟨hq, q⟩
    · obtain ⟨its, rv, p', hz⟩ := I1.list hq
      refine en_call (begins_list a its.toArray) p'.isList fun h' he hit hk => wpAny_pyIter_enum he ?_
      exact ⟨_, _, _, _, H1, rfl, I1.kept (t' := s1.toks) hk, turn_enum a (s1.heap.objs.size + 1) s1.heap.objs.size, ⟨⟨.none, he⟩, ⟨_, hit, rfl, rfl⟩, Nat.succ_ne_self _⟩, two, q⟩
    · obtain ⟨its, rv, p', hz⟩ := I1.tuple hq
      refine en_call (begins_tuple a its.toArray) p' fun h' he hit hk => wpAny_pyIter_enum he ?_
      exact ⟨_, _, _, _, H1, rfl, I1.kept (t' := s1.toks) hk, turn_et a (s1.heap.objs.size + 1) s1.heap.objs.size, ⟨⟨.none, he⟩, ⟨_, hit, rfl, rfl⟩, Nat.succ_ne_self _⟩, two, q⟩
theorem isIt_et {K : PySem.W.Frag} {w : Wd} {ds : List D} {a : Addr} {xs : List V} (h : TuAt K w a xs) (r : RpL K w ds xs) : IsIt K w (enumD 0 ds) (Itet K a) := fun w' k ok => by
  have ha := h.mono k
  have r' := r.mono k
  have hl := r'.length
  refine ⟨fun i d e => ?_, ⟨xs, ha.sq, by rw [enum_len]; omega⟩⟩
  obtain ⟨x, e1, rfl⟩ := enum_at e
  obtain ⟨v, f1, q1⟩ := r'.at e1
  refine ⟨⟨xs, v, ha.sq, f1⟩, fun z H'' yl => ?_⟩
  obtain ⟨T, v', rfl, hT, rfl, y1⟩ := yl
  have z1 := y1 xs ha.sq
  rw [f1] at z1
  cases z1
  refine ⟨Bh.new ok hT, rp_tup ok hT ⟨.int (i : Nat), [v], rfl, ?_, v, [], rfl, q1, rfl⟩⟩
  show V.int _ = V.int _
  rw [Nat.zero_add]
@[simp] def dEnT (ta : DA) : DI := fun ρ M Q => ta ρ M fun ds M1 => match ds with
  | [.lst _ xs] => Q (enumD 0 xs) M1
  | [.tup xs] => Q (enumD 0 xs) M1
  | _ => False
section
variable {X : Cx} {c : Wd} {e : Expr} {tl : DA} {p pos : Pos}
theorem pdi_enT {elts : List Expr} {kk : Nat} {tpos : Pos} (hm : X.mg "enumerate" = none) (ha : PDA c X [e] tl) (hg : Gl X "enumerate" := by rfl) (hs : starEach [e] X.env = [(false, eval e X.env)] := by rfl) :
    PDI c X (.Tuple elts kk tpos) (.Call (.Name "enumerate" p) [e] [] pos) (dEnT tl) :=
  PI_imp (pi_enT hg hm ha hs) fun σ H R ⟨ρ, w, Q', hH, a, h, k⟩ => ⟨ρ, w, _, hH, a, h, fun ds w1 vs q b r => by
    match ds, r, q with
    | [d], r, q =>
      obtain ⟨v, rfl, r1⟩ := one_of r
      cases d with
      | lst t xs => obtain ⟨pa, as, rfl, l1, s1⟩ := r1; exact ⟨pa, as, rfl, .inl ⟨l1.sq, k _ w1 _ q b (isIt_en l1 s1)⟩⟩
      | tup xs => obtain ⟨pa, as, rfl, l1, s1⟩ := r1; exact ⟨pa, as, rfl, .inr ⟨l1.sq, k _ w1 _ q b (isIt_et l1 s1)⟩⟩
      | _ => exact q.elim
    | [], r, q => exact False.elim q
    | d :: _ :: _, r, q => cases d <;> exact False.elim q⟩
end
end DL
/-! The data layer, part n-i: a display of a dict with texts as keys (owned), its items; count and index of a list of flat values. -/
namespace DL
open PySem PySem.Spec PyProof.Rows L2
def kvs {α : Type} (ks : List Str) (xs : List α) : List (Key × α) := (ks.zip xs).map fun p => (.inr p.1, p.2)
section
variable {X : Cx} {c : Wd} {e a b o i : Expr} {es : List Expr} {te ta tb : DE} {tl : DA} {pos p apos : Pos}
/-- the pairs of a display -/
structure PDP (c : Wd) (X : Cx) (pos : Pos) (keys : List (Option Expr)) (values : List Expr) (ks : List Str) (tl : DA) : Prop where
  ex : ∃ trs, PPs X pos keys values trs ∧ ∀ (ρ : DEnv) (w : Wd) (σ : L2.St) (Q' : List D → Mu → Prop) (Q : List (V × V) → Hp → Prop), At X.K c w ρ σ → tl ρ w.M Q' →
    (∀ ds w' vs, Q' ds w'.M → Bh X.K w w' → RpL X.K w' ds vs → ds.length = ks.length → Q ((ks.zip vs).map fun p => (.str p.1, p.2)) w'.H) → tPairs trs σ w.H Q
theorem pdp_nil : PDP c X pos [] [] [] dNil := ⟨[], pps_nil, fun ρ w σ Q' Q a h k => k [] w [] h (Bh.refl a.ok) rfl rfl⟩
theorem pdp_cons {k : Str} {j : Nat} {kp : Pos} {v : Expr} {keys : List (Option Expr)} {values : List Expr} {ks : List Str} (hv : PD c X v te) (hr : PDP c X pos keys values ks tl) : PDP c X pos (some (.Constant (.str k) j kp) :: keys) (v :: values) (k :: ks) (dCons te tl) := by
  obtain ⟨trs, h1, h2⟩ := hr.ex
  refine ⟨(tC (.str k), lift X.K c te) :: trs, pps_cons pe_str hv h1, fun ρ w σ Q' Q a h kk => ?_⟩
  show lift X.K c te σ w.H _
  refine ⟨ρ, w, _, rfl, a, h, fun d w1 x q b1 r => ?_⟩
  refine h2 ρ w1 σ _ _ (a.next b1) q fun ds w2 vs q2 b2 r2 hl => ?_
  exact kk (d :: ds) w2 (x :: vs) q2 (b1.trans b2) ⟨x, vs, rfl, r.mono b2.kp, r2⟩ (by simp [hl])
theorem kvs_pairs : ∀ (ks : List Str) (vs : List V), (ks.zip vs).map (fun p => ((V.str p.1, p.2) : V × V)) = (kvs ks vs).map fun kv => (kV kv.1, kv.2)
  | [], _ => rfl
  | _ :: _, [] => rfl
  | k :: ks, v :: vs => by
    have := kvs_pairs ks vs
    simp only [kvs] at this ⊢
    simp only [List.zip_cons_cons, List.map_cons, this]
    rfl
theorem kvs_rp {K : PySem.W.Frag} {w : Wd} : ∀ {ks : List Str} {ds : List D} {vs : List V}, RpL K w ds vs → RpK K w ((kvs ks ds).map fun p => (keyD p.1, p.2)) ((kvs ks vs).map fun p => (keyD p.1, p.2)) ∧ (kvs ks vs).map (·.1) = (kvs ks ds).map (·.1)
  | [], _, _, _ => ⟨rfl, rfl⟩
  | _ :: _, [], vs, r => by obtain rfl : vs = [] := r; exact ⟨rfl, rfl⟩
  | k :: ks, d :: ds, vs, r => by
    obtain ⟨v, q, rfl, r1, r2⟩ := r
    obtain ⟨h1, h2⟩ := kvs_rp (ks := ks) r2
    exact ⟨⟨v, _, rfl, r1, h1⟩, congrArg (Sum.inr k :: ·) h2⟩
theorem putK_new {kk : List (Key × V)} {k : Key} {v : V} (h : k ∉ kk.map (·.1)) : putK kk k v = kk ++ [(k, v)] := by
  unfold putK
  rw [if_neg]
  simp only [List.any_eq_true, not_exists, not_and]
  intro q hq z
  exact h (List.mem_map.mpr ⟨q, hq, by simpa using z⟩)
theorem merge_new : ∀ (l acc : List (Key × V)), ((acc ++ l).map (·.1)).Nodup → mergeK acc l = acc ++ l
  | [], acc, _ => by simp [mergeK]
  | (k, v) :: l, acc, h => by
    have hk : k ∉ acc.map (·.1) := fun z => by
      rw [List.map_append, List.map_cons, List.nodup_append] at h
      exact h.2.2 k z k List.mem_cons_self rfl
    show mergeK (putK acc k v) l = _
    rw [putK_new hk, merge_new l (acc ++ [(k, v)]) (by simpa using h)]
    simp
theorem kvs_keys {α : Type} : ∀ {ks : List Str} {vs : List α}, ks.length = vs.length → (kvs ks vs).map (·.1) = ks.map Sum.inr
  | [], _, _ => rfl
  | _ :: _, [], h => by cases h
  | k :: ks, v :: vs, h => by
    have := kvs_keys (ks := ks) (vs := vs) (by simpa using h)
    simp only [kvs] at this ⊢
    simp [this]
/-- {k: v, ..}, owned -/
@[simp] def dDisp (ks : List Str) (tl : DA) : DE := fun ρ M Q => ∀ a, M a = none → tl ρ (setM M a (.dK [])) fun ds M2 => M2 a = some (.dK []) ∧ Q (.ref a) (setM M2 a (.dK (kvs ks ds)))
theorem pd_disp {keys : List (Option Expr)} {values : List Expr} {ks : List Str} (h : PDP c X pos keys values ks tl) (hn : ks.Nodup) (h15 : ks.length ≤ 15) (hall : keys.all (·.isSome) = true := by rfl) (hl : keys.length = values.length := by rfl) (h0 : keys ≠ [] := by simp) (hk15 : keys.length ≤ 15 := by decide) :
    PD c X (.Dict keys values pos) (dDisp ks tl) := by
  obtain ⟨trs, h1, h2⟩ := h.ex
  refine PE_imp (pe_disp h1 hall hl h0 hk15) fun σ H Q ⟨ρ, w, Q', hH, at0, hq, k⟩ p hp => ?_
  subst hH
  have b1 : Bh X.K w { w with M := setM w.M p (.dK []), H := upd w.H p (.dK []) } := Bh.newOwn at0.ok hp fun w' e k' => ⟨[], e, rfl, rfl⟩
  refine h2 ρ { w with M := setM w.M p (.dK []), H := upd w.H p (.dK []) } σ _ _ (at0.next b1) (hq p (at0.ok.fresh hp).m) fun ds w2 vs ⟨em, q2⟩ b2 r hlen => ?_
  have hv : ks.length = vs.length := by rw [r.length, hlen]
  obtain ⟨hs, e0, e1, e2⟩ := (show ∃ ks, w2.H p = some (.dK ks) ∧ RpK X.K w2 (([] : List (Key × D)).map fun p => (keyD p.1, p.2)) (ks.map fun p => (keyD p.1, p.2)) ∧ ks.map (·.1) = ([] : List (Key × D)).map (·.1) from b2.ok.mo p _ em)
  obtain rfl : hs = [] := List.map_eq_nil_iff.mp e2
  refine ⟨e0, kvs ks vs, kvs_pairs ks vs, by unfold kvs; simp; omega, ?_⟩
  have nd : ((([] : List (Key × V)) ++ kvs ks vs).map (·.1)).Nodup := by
    rw [List.nil_append, kvs_keys hv]
    refine List.Pairwise.map _ (fun a b h z => h (Sum.inr.inj z)) hn
  rw [merge_new _ [] nd, List.nil_append]
  have b3 := Bh.own (u := .dK (kvs ks vs)) (m' := .dK (kvs ks ds)) b2.ok em fun w' e k' => ⟨kvs ks vs, e, (kvs_rp (r.mono k')).1, (kvs_rp (r.mono k')).2⟩
  exact k (.ref p) _ (.ref p) q2 ((b1.trans b2).trans b3) rfl
def lkK (l : List (Key × D)) (k : Key) : Option D := (l.find? fun p => decide (p.1 = k)).map (·.2)
/-- d[k], an owned dict, a text -/
@[simp] def ixS : D2 := fun x y M Q => match x, y with
  | .ref a, .str z => (match M a with | some (.dK l) => (match lkK l (.inr z) with | some d => Q d M | none => False) | _ => False)
  | _, _ => False
theorem lookup_rp {K : PySem.W.Frag} {w : Wd} {k : Key} : ∀ {l : List (Key × D)} {ls : List (Key × V)} {d : D}, RpK K w (l.map fun p => (keyD p.1, p.2)) (ls.map fun p => (keyD p.1, p.2)) → ls.map (·.1) = l.map (·.1) → lkK l k = some d → ∃ v, valV ls k = some v ∧ Rp K w d v
  | [], ls, d, _, _, h => by cases h
  | (k0, x) :: l, ls, d, r, e, h => by
    cases ls with
    | nil => cases e
    | cons q ls =>
      obtain ⟨k1, v1⟩ := q
      rw [List.map_cons, List.map_cons] at e
      injection e with e1 e2
      obtain rfl : k1 = k0 := e1
      obtain ⟨y, rest, er, r1, r2⟩ := r
      rw [List.map_cons] at er
      injection er with er1 er2
      injection er1 with _ er3
      subst er2 er3
      unfold lkK at h
      unfold valV
      by_cases hk : k1 = k
      · rw [List.find?_cons_of_pos (by simpa using hk)] at h ⊢
        obtain rfl : x = d := by simpa using h
        exact ⟨v1, rfl, r1⟩
      · rw [List.find?_cons_of_neg (by simpa using hk)] at h ⊢
        exact lookup_rp r2 e2 h
theorem ixR_K (hu : X.A.units + 64 < cLine) : IxR X (liftO X.K ixS) := by
  intro value slice pins s σ H x y v u Q I rx ry ⟨w, dx, dy, Q', hH, ok, r1, r2, h, k⟩ hs
  subst hH
  cases dx with
  | ref a =>
    obtain rfl : x = .ref a := r1
    cases dy with
    | str z =>
      obtain rfl : y = .str z := r2
      change (match w.M a with | some (.dK l) => (match lkK l (.inr z) with | some d => Q' d w.M | none => False) | _ => False) at h
      cases em : w.M a with
      | none => rw [em] at h; exact h.elim
      | some m =>
        cases m with
        | dK l =>
          rw [em] at h
          change (match lkK l (.inr z) with | some d => Q' d w.M | none => False) at h
          cases el : lkK l (.inr z) with
          | none => rw [el] at h; exact h.elim
          | some d =>
            rw [el] at h
            obtain ⟨ls, h1, h2, h3⟩ := (show ∃ ks, w.H a = some (.dK ks) ∧ RpK X.K w (l.map fun p => (keyD p.1, p.2)) (ks.map fun p => (keyD p.1, p.2)) ∧ ks.map (·.1) = l.map (·.1) from ok.mo a _ em)
            obtain ⟨v', hv, rv⟩ := lookup_rp h2 h3 el
            cases (show v = Value.ref a from rx)
            obtain ⟨_, _, _, _, dd⟩ := dk_of I.hok h1
            exact tailD dd.typeIs PySem.F.slot_dict_getitem.lookup hs (d_getItem (hu := by omega) I (DGet.k (k := .inr z) h1 |> fun g => by rw [hv] at g; exact g) ry fun w' s' I' rw' => ⟨v', w.H, I', rw', k.here ok h rv⟩)
        | _ => rw [em] at h; exact h.elim
    | _ => exact h.elim
  | _ => exact h.elim
theorem pd_ixS (hu : X.A.units + 64 < cLine) (ha : PD c X a ta) (hb : PD c X b tb) (hs : PlainIx b := by exact fun _ _ => rfl) : PD c X (.Subscript a b pos) (dOp ixS ta tb) := PE_imp (pe_ix (ixR_K hu) ha hb hs) fun _ _ _ ⟨_, _, _, hH, a, h, k⟩ => op_imp hH a h k
/-! ### o.count(e), o.index(e), o a list of flat values -/
abbrev DL1 := List D → D → Mu → DK → Prop
@[simp] def dL1 (g : DL1) (ta tb : DE) : DE := fun ρ M Q => ta ρ M fun d M1 => match d with | .lst _ xs => tb ρ M1 fun y M2 => g xs y M2 Q | _ => False
@[simp] def lcountD : DL1 := fun xs y M Q => (flatD y = true ∧ xs.all flatD = true) ∧ Q (.int (xs.countP fun x => eqB x y : Nat)) M
@[simp] def lindexD : DL1 := fun xs y M Q => (flatD y = true ∧ xs.all flatD = true) ∧ (match xs.findIdx? fun x => eqB x y with | some j => Q (.int (j : Nat)) M | none => False)
def rCntF (K : PySem.W.Frag) : V → List V → Hp → VK → Prop := fun x xs H Q => ∃ (p : Addr) (ys : List V) (y : V), x = .ref p ∧ xs = [y] ∧ SqL K H p ys ∧ flatV y = true ∧ ys.all flatV = true ∧ Q (.int (ys.countP fun z => eqV z y : Nat)) H
theorem cntP_vals {y : V} : ∀ {ys : List V} {us : List Value}, Vals ys us → ys.all flatV = true → us.countP (eqU y) = ys.countP fun z => eqV z y
  | _, _, .nil, _ => rfl
  | _, _, .cons r t, h => by
    rw [List.all_cons, Bool.and_eq_true] at h
    rw [List.countP_cons, List.countP_cons, cntP_vals t h.2, eqU_of r h.1]
theorem mt_lcountF : MtR X "list.count" (rCntF X.K) := by
  intro pins s σ H x xs v us Q I rx rxs h
  obtain ⟨p, ys, y, rfl, rfl, hs, fy, fys, q⟩ := h
  cases rx
  cases rxs with
  | cons ry rt =>
    rename_i uy ut
    cases rt
    obtain ⟨its, rv, ⟨⟨cls, dd, data, sl⟩, n, ho, hc, hdn, hd⟩, hlen⟩ := I.list hs
    simp only at hc hd
    subst hc hd
    refine call_meets PySem.F.slot_list_count ⟨_, ho, rfl⟩ PySem.F.entry_list_count (PySem.F.args_list_count_2 _ _)
      (SeqAt.list_countAt p its.toArray n dd sl uy (eqU y)) ⟨ho, fun u' hu' => mem_eqAt ry fy rv fys u' (by simpa using hu'), ?_⟩
    refine ⟨.int _, H, I.tok _, ⟨s.toks, ?_⟩, q⟩
    show Value.int ((its.toArray.toList.countP (eqU y) : Nat) : Int) s.toks = _
    rw [show its.toArray.toList = its from by simp, cntP_vals rv fys]
def liftL1 (K : PySem.W.Frag) (g : DL1) : V → List V → Hp → VK → Prop := fun x xs H Q => ∃ w t ds y v Q', w.H = H ∧ Rp K w (.lst t ds) x ∧ xs = [v] ∧ Ok K w ∧ Rp K w y v ∧ g ds y w.M Q' ∧ Wv K w Q' Q
theorem cnt_rp {K : PySem.W.Frag} {w : Wd} {y : D} {vy : V} (fy : flatD y = true) (ry : Rp K w y vy) : ∀ {ds : List D} {vs : List V}, ds.all flatD = true → RpL K w ds vs → (vs.countP fun z => eqV z vy) = ds.countP fun x => eqB x y
  | [], vs, _, r => by obtain rfl : vs = [] := r; rfl
  | d :: ds, vs, h, r => by
    obtain ⟨v, q, rfl, r1, r2⟩ := r
    rw [List.all_cons, Bool.and_eq_true] at h
    rw [List.countP_cons, List.countP_cons, cnt_rp fy ry h.2 r2, eqV_eqB h.1 fy r1 ry]
theorem lcount_D : MtR X "list.count" (liftL1 X.K lcountD) := by
  intro pins s σ H x xs v us Q I rx rs ⟨w, t, ds, y, vy, Q', hH, r0, e2, ok, r, ⟨⟨fy, fds⟩, h⟩, k⟩
  subst hH e2
  obtain ⟨p, ys, rfl, l, s1⟩ := r0
  refine mt_lcountF pins s σ _ _ _ v us Q I rx rs ⟨p, ys, vy, rfl, rfl, l.sq, flat_v fy r, flat_vs fds s1, ?_⟩
  rw [cnt_rp fy r fds s1]
  exact k.here ok h rfl
theorem lindex_D : MtR X "list.index" (liftL1 X.K lindexD) := by
  intro pins s σ H x xs v us Q I rx rs ⟨w, t, ds, y, vy, Q', hH, r0, e2, ok, r, ⟨⟨fy, fds⟩, h⟩, k⟩
  subst hH e2
  obtain ⟨p, ys, rfl, l, s1⟩ := r0
  cases ej : ds.findIdx? (fun x => eqB x y) with
  | none => rw [ej] at h; exact h.elim
  | some j =>
    rw [ej] at h
    obtain ⟨hj, hp, hno⟩ := List.findIdx?_eq_some_iff_getElem.mp ej
    have e1 : ds[j]? = some ds[j] := List.getElem?_eq_getElem hj
    obtain ⟨z, ez, rz⟩ := s1.at e1
    have fd : ∀ {m : Nat} (hm : m < ds.length), flatD ds[m] = true := fun hm => List.all_eq_true.mp fds _ (List.getElem_mem hm)
    refine mt_index pins s σ _ _ _ v us Q I rx rs ⟨p, ys, vy, j, z, rfl, rfl, l.sq, flat_v fy r, flat_vs fds s1, ez, by rw [eqV_eqB (fd hj) fy rz r]; exact hp, fun m z' hm ez' => ?_, k.here ok h rfl⟩
    have hm' : m < ds.length := by omega
    obtain ⟨z2, ez2, rz2⟩ := s1.at (List.getElem?_eq_getElem hm')
    rw [ez'] at ez2; cases ez2
    rw [eqV_eqB (fd hm') fy rz2 r]
    have := hno m hm
    simpa using this
theorem pd_l1 {id : String} {name : Str} {g : DL1} (slot : Slot "list" name id) (ty : typeOf (.builtin id) = pure (.type "method_descriptor")) (rule : MtR X id (liftL1 X.K g)) (ho : PD c X o ta) (he : PD c X e tb)
    (hbase : attributeBase o name X.env (eval o X.env) = eval o X.env := by rfl)
    (hfew : ((backTo pos (starEach [e] X.env)).all (fun x => !x.1) && (backToKw pos (keywordEach [] X.env)).all (fun x => x.1.isSome)
      && decide (([e] : List Expr).length + ([] : List Keyword).length + (if ([] : List Keyword).isEmpty then 0 else 1) < 30)) = true := by rfl)
    (hline : (apos.endLine == pos.line) = true := by rfl) (hs : starEach [e] X.env = (false, eval e X.env) :: starEach [] X.env := by rfl) (hplain : (backTo pos (starEach [] X.env)).any (·.1) = false := by rfl) :
    PD c X (.Call (.Attribute o name apos) [e] [] pos) (dL1 g ta tb) := PE_imp (pe_bm PySem.F.plainAttrs_list slot ty rule ho (pda_cons he pda_nil hs) hbase hfew hline hs hplain) fun σ H Q ⟨ρ, w, Q', hH, a, h, k⟩ =>
  ⟨ρ, w, _, hH, a, h, fun d w1 v q b1 r => by
    cases d with
    | lst t xs =>
      refine ⟨?_, ρ, w1, (fun ds M2 => match ds with | [y] => g xs y M2 Q' | _ => False), rfl, a.next b1, q, fun ys w2 us q2 b2 r2 => ?_⟩
      · obtain ⟨p, vs, rfl, l, _⟩ := r
        exact .inl ⟨rfl, vs, l.sq⟩
      · match ys, r2, q2 with
        | [y], r2, q2 =>
          obtain ⟨u, rfl, r3⟩ := one_of r2
          exact ⟨w2, t, xs, y, u, Q', rfl, r.mono b2.kp, rfl, b2.ok, r3, q2, k.back (b1.trans b2)⟩
        | [], _, q2 => exact q2.elim
        | _ :: _ :: _, _, q2 => exact q2.elim
    | _ => exact q.elim⟩
theorem pd_lcount (ho : PD c X o ta) (he : PD c X e tb) (hbase : attributeBase o "count" X.env (eval o X.env) = eval o X.env := by rfl)
    (hfew : ((backTo pos (starEach [e] X.env)).all (fun x => !x.1) && (backToKw pos (keywordEach [] X.env)).all (fun x => x.1.isSome)
      && decide (([e] : List Expr).length + ([] : List Keyword).length + (if ([] : List Keyword).isEmpty then 0 else 1) < 30)) = true := by rfl)
    (hline : (apos.endLine == pos.line) = true := by rfl) (hs : starEach [e] X.env = (false, eval e X.env) :: starEach [] X.env := by rfl) (hplain : (backTo pos (starEach [] X.env)).any (·.1) = false := by rfl) :
    PD c X (.Call (.Attribute o "count" apos) [e] [] pos) (dL1 lcountD ta tb) := pd_l1 PySem.F.slot_list_count PySem.F.type_list_count lcount_D ho he hbase hfew hline hs hplain
theorem pd_lindex (ho : PD c X o ta) (he : PD c X e tb) (hbase : attributeBase o "index" X.env (eval o X.env) = eval o X.env := by rfl)
    (hfew : ((backTo pos (starEach [e] X.env)).all (fun x => !x.1) && (backToKw pos (keywordEach [] X.env)).all (fun x => x.1.isSome)
      && decide (([e] : List Expr).length + ([] : List Keyword).length + (if ([] : List Keyword).isEmpty then 0 else 1) < 30)) = true := by rfl)
    (hline : (apos.endLine == pos.line) = true := by rfl) (hs : starEach [e] X.env = (false, eval e X.env) :: starEach [] X.env := by rfl) (hplain : (backTo pos (starEach [] X.env)).any (·.1) = false := by rfl) :
    PD c X (.Call (.Attribute o "index" apos) [e] [] pos) (dL1 lindexD ta tb) := pd_l1 PySem.F.slot_list_index PySem.F.type_list_index lindex_D ho he hbase hfew hline hs hplain
/-- x in o, o an owned list -/
@[simp] def inR : D2 := fun x y M Q => match y with
  | .ref a => (match M a with | some (.lst ys) => (flatD x = true ∧ ys.all flatD = true) ∧ Q (.bl (inB x ys)) M | _ => False)
  | _ => False
theorem opD_inR : OpD X (compareOp .In) inR := by
  intro pins s σ H x y v u Q I rx ry ⟨w, dx, dy, Q', hH, ok, r1, r2, h, k⟩
  subst hH
  cases dy with
  | ref a =>
    obtain rfl : y = .ref a := r2
    change (match w.M a with | some (.lst ys) => (flatD dx = true ∧ ys.all flatD = true) ∧ Q' (.bl (inB dx ys)) w.M | _ => False) at h
    cases em : w.M a with
    | none => rw [em] at h; exact h.elim
    | some m =>
      cases m with
      | lst ys =>
        rw [em] at h
        change (flatD dx = true ∧ ys.all flatD = true) ∧ Q' (.bl (inB dx ys)) w.M at h
        obtain ⟨xs, h1, h2⟩ := (show ∃ xs, w.H a = some (.lst xs) ∧ RpL X.K w ys xs from ok.mo a _ em)
        refine op_in_seq pins s σ _ _ _ v u Q I rx ry ⟨a, xs, rfl, .inl (.inl (.inl h1)), flat_v h.1.1 r1, flat_vs h.1.2 h2, ?_⟩
        show Q (.bl (inV x xs)) w.H
        rw [inV_inB h.1.1 r1 h.1.2 h2]; exact k.here ok h.2 rfl
      | _ => rw [em] at h; exact h.elim
  | _ => exact h.elim
end
end DL
/-! The data layer, part n-j: lambdas that are kept in a list, called by a def of a def. -/
namespace DL
open PySem PySem.Spec PyProof.Rows L2 LamX
def FunO (f : Addr) (o : Obj) : HO := .ext fun h => h.get? f = some o
theorem funO_ok {P : Program} {w : World} {H : Hp} {h : Heap} {f : Addr} {o : Obj} (e : h.get? f = some o) : ObjOk P w H h f (FunO f o) := ⟨e, ⟨o, e⟩, fun _ _ a b => b o a⟩
theorem tabs_new {T : List (Addr × Str)} {H : Hp} {a : Addr} {o : HO} (hn : H a = none) (h : Tabs T H) : Tabs T (upd H a o) := fun p hp => by
  obtain ⟨vs, e, t, k⟩ := h p hp
  exact ⟨vs, by rw [upd_ne (ne_of_none e hn)]; exact e, t, fun p' cv q => (k p' cv q).imp fun c z => ⟨z.1, by rw [upd_ne (ne_of_none z.2 hn)]; exact z.2⟩⟩
theorem extN_new {H : Hp} {a : Addr} {o : HO} (hn : H a = none) : ExtN H (upd H a o) := fun b u e _ => by rw [upd_ne (ne_of_none e hn)]; exact e
theorem ExtN.trans {H H1 H2 : Hp} (a : ExtN H H1) (b : ExtN H1 H2) : ExtN H H2 := fun x o e n => b x o (a x o e n) n
section
variable {X : Cx} {pins : List (Addr × Obj)} {σ : L2.St} {H HZ : Hp} {s s1 : Shared}
theorem lam_tailF {T : List (Addr × Str)} {c P : Addr} {params : Arguments} {body : Expr} {scope : Scope} {pos : Pos} {dV : Value} {E : Value → Shared → Prop} {Q : Value → Shared → Prop} (V : Inv X pins σ H s) (TB : TabB X.base X.mg c P) (hcode : X.env.code = .ref c)
    (hm : (P, X.env.qual ++ "<lambda>") ∈ T) (hu : ∀ p ∈ T, p.1 = P → p.2 = X.env.qual ++ "<lambda>") (hT : Tabs T H) (hfree : ∀ y ∈ scope.names, y.2 = .free → ∃ c, X.env.cells.lookup y.1 = some c)
    (k : ∀ (f c' : Addr) (doc pm ctv : Value) (H1 : Hp) (s' : Shared), Inv X pins σ H1 s' → ExtN H H1 → Tabs T H1 →
      H1 f = some (FunO f (lamO (X.env.qual ++ "<lambda>") params body scope (cloFrom X.env.cells scope.names []) dV doc pm c' ctv)) → H1 c' = some (CodeO c' (X.env.qual ++ "<lambda>")) → Q (.ref f) s') :
    wpAny (model X.prog X.w) X.A (makeTail "<lambda>" (X.env.qual ++ "<lambda>") params (.expr body) scope X.env dV .none none pos pos.line) Q E s := by
  obtain ⟨vs, tab, ord, among⟩ := hT _ hm
  have tabO : s.heap.get? P = some { cls := .none, data := .fields vs } := V.hok P _ tab
  match hc : codeAmong pos vs.toList with
  | some cv =>
    obtain ⟨c', rfl, hco⟩ := among pos cv hc
    refine PySem.W.kdv_makeTailHit (mg := X.mg) (c := c) (P := P) (closure_ok hfree) V.ok.glob (V.mod.glob.keeps V.bk) hcode (TB.code.keeps V.bk) tabO ord hc (TB.bm.keeps V.bk) fun ctv doc g tk keep le => ?_
    have hn : H g.objs.size = none := V.hok.fresh le
    exact k g.objs.size c' doc _ ctv (upd H g.objs.size (FunO _ _)) _ (V.laid (t' := tk) (fun x o ex => Heap.get?_push_of_some _ (keep x o ex)) le (funO_ok (Heap.get?_push_size _ rfl))) (extN_new hn) (tabs_new hn hT) upd_same (by rw [upd_ne (ne_of_none hco hn)]; exact hco)
  | none =>
    refine PySem.W.kdv_makeTail (mg := X.mg) (c := c) (P := P) (closure_ok hfree) V.ok.glob (V.mod.glob.keeps V.bk) hcode (TB.code.keeps V.bk) tabO ord hc TB.gP (TB.bm.keeps V.bk) fun c' ctv doc g tk but ge lt rec' tab' => ?_
    obtain ⟨_, oc, fs, t, ⟨⟩, hoc, hdt, hnm⟩ := rec'
    have cn : H c' = none := V.hok.fresh ge
    obtain ⟨ext, tabs⟩ := tabs_more (pos := pos) hu hT tab ord cn among
    have V1 := inv_table (t' := tk) (more := #[rawInt pos.line, rawInt pos.col, .ref c']) (h' := g) V tab (fun x o hx ex => but x o hx ex) tab' ge ⟨oc, fs, t, hoc, hdt, hnm⟩
    have hn := V1.hok.fresh (Nat.le_refl g.objs.size)
    have V2 := V1.laid (t' := tk) (h' := g.push (lamO (X.env.qual ++ "<lambda>") params body scope (cloFrom X.env.cells scope.names []) dV doc ((X.mg "__name__").getD .none) c' ctv)) (fun x o ex => Heap.get?_push_of_some _ ex) (Nat.le_refl g.objs.size) (funO_ok (o := lamO (X.env.qual ++ "<lambda>") params body scope (cloFrom X.env.cells scope.names []) dV doc ((X.mg "__name__").getD .none) c' ctv) (Heap.get?_push_size _ rfl))
    exact k g.objs.size c' doc _ ctv _ _ V2 (ext.trans (extN_new hn)) (tabs_new hn tabs) upd_same (by rw [upd_ne (Nat.ne_of_lt lt)]; exact upd_same)
end
/-! ### a lambda as a value -/
/-- a lambda: its parameters, its text, its names, its default -/
structure Lm where
  params : Arguments
  body : Expr
  scope : Scope
  df : Option Int
/-- at f stands this lambda, made in the frame of X -/
def LamH (X : Cx) (H : Hp) (l : Lm) (f : Addr) : Prop := ∃ (c' : Addr) (dV doc pm ctv : Value), H f = some (FunO f (lamO (X.env.qual ++ "<lambda>") l.params l.body l.scope (cloFrom X.env.cells l.scope.names []) dV doc pm c' ctv)) ∧ H c' = some (CodeO c' (X.env.qual ++ "<lambda>")) ∧
  (match l.df with | none => dV = .none | some i => ∃ t0, dV = .ref t0 ∧ H t0 = some (.tup [.int i]))
def tLamV (X : Cx) (T : List (Addr × Str)) (l : Lm) : TE := fun _ H Q => Tabs T H ∧ ∀ f H1, ExtN H H1 → Tabs T H1 → LamH X H1 l f → Q (.ref f) H1
section
variable {X : Cx} {T : List (Addr × Str)} {cc Pt : Addr} {l : Lm} {pos : Pos}
theorem pe_lamV (TB : TabB X.base X.mg cc Pt) (hcode : X.env.code = .ref cc) (hm : (Pt, X.env.qual ++ "<lambda>") ∈ T) (hu : ∀ p ∈ T, p.1 = Pt → p.2 = X.env.qual ++ "<lambda>") (hfree : X.Ok → ∀ y ∈ l.scope.names, y.2 = .free → ∃ c, X.env.cells.lookup y.1 = some c)
    (hl : l.df = none) (hdef : defaultsOf l.params X.env = ([], [])) : PE X (.Lambda l.params l.body l.scope pos) (tLamV X T l) := by
  refine ⟨fun pins s σ H Q I ⟨hT, k⟩ => ?_⟩
  refine PySem.W.kla_eval hdef ?_
  rw [makeFunction_eq]
  simp only [List.zip_nil_right, List.filterMap_nil, List.isEmpty_nil, if_true, pure_bind]
  refine lam_tailF I TB hcode hm hu hT (hfree I.ok) fun f c' doc pm ctv H1 s' I1 eN T1 hf hco => ?_
  exact ⟨.ref f, H1, I1, rfl, k f H1 eN T1 ⟨c', _, doc, pm, ctv, hf, hco, by rw [hl]⟩⟩
theorem pe_lamVD {e0 : Expr} {i0 : Int} (TB : TabB X.base X.mg cc Pt) (hcode : X.env.code = .ref cc) (hm : (Pt, X.env.qual ++ "<lambda>") ∈ T) (hu : ∀ p ∈ T, p.1 = Pt → p.2 = X.env.qual ++ "<lambda>") (hfree : X.Ok → ∀ y ∈ l.scope.names, y.2 = .free → ∃ c, X.env.cells.lookup y.1 = some c)
    (hl : l.df = some i0) (he0 : PE X e0 (tC (.int i0))) (hd1 : l.params.defaults = [e0]) (hk0 : l.params.kw_defaults = []) : PE X (.Lambda l.params l.body l.scope pos) (tLamV X T l) := by
  refine ⟨fun pins s σ H Q I ⟨hT, k⟩ => ?_⟩
  refine PySem.W.kdv_lam (by rw [hd1]; rfl) hk0 ?_
  rw [hd1]
  refine PySem.W.kdv_all1 (thn (he0.run pins s σ H (fun v H1 => v = .int i0 ∧ H1 = H) I ⟨rfl, rfl⟩) fun u0 s0 ⟨v, H1, I0, r1, q1⟩ => ?_)
  obtain ⟨ev, eH⟩ := q1
  subst ev
  rw [eH] at I0
  refine PySem.W.kdv_all0 ?_
  rw [makeFunction_eq]
  simp only [List.zip_nil_right, List.filterMap_nil, List.isEmpty_nil, if_true, pure_bind, List.isEmpty_cons, Bool.false_eq_true, if_false]
  refine wpAny_bind (wpAny_newTextTuple ?_)
  have t0n : H s0.heap.objs.size = none := I0.hok.fresh (Nat.le_refl _)
  have t0g : (s0.heap.push (PySem.W.kdv_tup [u0])).get? s0.heap.objs.size = some (PySem.W.kdv_tup [u0]) := Heap.get?_push_size _ rfl
  have I1 : Inv X pins σ (upd H s0.heap.objs.size (.tup [.int i0])) { s0 with heap := s0.heap.push (PySem.W.kdv_tup [u0]) } := I0.laid (t' := s0.toks) (fun b o e => Heap.get?_push_of_some _ e) (Nat.le_refl _) ⟨sz (by simp), [u0], .cons r1 .nil, ⟨_, t0g, ⟨rfl, ⟨_, rfl⟩⟩⟩⟩
  refine lam_tailF I1 TB hcode hm hu (tabs_new t0n hT) (hfree I0.ok) fun f c' doc pm ctv H2 s' I2 hE T1 hf hco => ?_
  exact ⟨.ref f, H2, I2, rfl, k f H2 ((extN_new t0n).trans hE) T1 ⟨c', _, doc, pm, ctv, hf, hco, by rw [hl]; exact ⟨_, rfl, hE _ _ upd_same (fun ps z => by cases z)⟩⟩⟩
end
end DL
/-! The data layer, part n-k: the call of a lambda that is kept, from deep below. -/
namespace DL
open PySem PySem.Spec PyProof.Rows L2 LamX
theorem Un.then {fs fs' : List Addr} {H H1 H2 : Hp} {h h1 h2 : Heap} (a : Un fs [] H H1 h h1) (b : Un fs' [] H1 H2 h1 h2) (sub : ∀ x o, h.get? x = some o → x ∉ fs → x ∉ fs') : Un fs [] H H2 h h2 where
  keep := fun c ob q n hc hx => b.keep c ob (a.keep c ob q n hc hx) (a.free c ob q n hx) (sub c ob q hc) hx
  slot := fun c ob q n hc hx => by
    obtain ⟨sl, e1⟩ := a.slot c ob q n hc hx
    obtain ⟨sl', e2⟩ := b.any e1 (a.free c ob q n hx) hx
    exact ⟨sl', e2⟩
  free := fun c ob q n hx => by
    obtain ⟨o', e1⟩ := a.there c ob q hx
    exact b.free c o' e1 (a.free c ob q n hx) hx
  there := fun c ob q hx => by
    obtain ⟨o', e1⟩ := a.there c ob q hx
    exact b.there c o' e1 hx
  tups := fun c xs q => b.tups c xs (a.tups c xs q)
  frzs := fun c o u q => b.frzs c o u (a.frzs c o u q)
  tbls := fun c ps q => by
    obtain ⟨m1, e1⟩ := a.tbls c ps q
    obtain ⟨m2, e2⟩ := b.tbls c _ e1
    exact ⟨m1 ++ m2, by rw [e2, Array.append_assoc]⟩
/-- what a lambda's names must be -/
def LmOk (X : Cx) (l : Lm) : Prop := match l.df with
  | none => LamS X.env.scope l.scope ∧ ∀ (q : Str) (cl : List (Str × Addr)) (doc pm cv ctv : Value), bindArgs (PySem.W.kdv_fn "<lambda>" q l.params (.expr l.body) l.scope cl .none doc pm cv ctv) ⟨[], []⟩ = pure []
  | some _ => ∃ p, LamP X.N X.env.scope l.scope p ∧ ∀ (q : Str) (cl : List (Str × Addr)) (t0 : Addr) (doc pm cv ctv : Value), ∃ k, bindArgs (PySem.W.kdv_fn "<lambda>" q l.params (.expr l.body) l.scope cl (.ref t0) doc pm cv ctv) ⟨[], []⟩ = (seqItems? (.ref t0) >>= k) ∧ ∀ u : Value, k (some [u].toArray) = pure [(p, u)]
theorem lmOk_s {X : Cx} {ps : Arguments} {b : Expr} {sc : Scope} (L : LamS X.env.scope sc) (hb : ∀ (q : Str) (cl : List (Str × Addr)) (doc pm cv ctv : Value), bindArgs (PySem.W.kdv_fn "<lambda>" q ps (.expr b) sc cl .none doc pm cv ctv) ⟨[], []⟩ = pure [] := by intros; rfl) : LmOk X ⟨ps, b, sc, none⟩ := ⟨L, hb⟩
theorem lmOk_d {X : Cx} {ps : Arguments} {b : Expr} {sc : Scope} {i : Int} {p : Str} (L : LamP X.N X.env.scope sc p) (hb : ∀ (q : Str) (cl : List (Str × Addr)) (t0 : Addr) (doc pm cv ctv : Value), ∃ k, bindArgs (PySem.W.kdv_fn "<lambda>" q ps (.expr b) sc cl (.ref t0) doc pm cv ctv) ⟨[], []⟩ = (seqItems? (.ref t0) >>= k) ∧ ∀ u : Value, k (some [u].toArray) = pure [(p, u)] := by intros; exact ⟨_, rfl, fun _ => rfl⟩) : LmOk X ⟨ps, b, sc, some i⟩ := ⟨p, L, hb⟩
section
variable {X : Cx} {pins : List (Addr × Obj)} {σ : L2.St} {H : Hp} {s : Shared}
theorem pe_actT {CXg : CXT} {Eg : XK} {Ng : List Str} {qg : Str} {sg : Scope} {g f : Addr} {cdg : Value} {AY : Around} {stY : List Env} {sY : Shared} {HY : Hp} {l : Lm} {k i : Nat} {a : Str} {pn : List (Addr × Obj)} {xe : Value → Shared → Prop} {W : WX} {E : XK} {tb : TE} {p1 p2 : Pos}
    (I : Inv X pins σ H s) (L : LmOk X l) (un0 : Un (frs X.stack) [] H HY s.heap sY.heap) (hst : ∀ x o, s.heap.get? x = some o → x ∉ frs X.stack → x ∉ frs stY)
    (tk : L2N.Takes ((cxOf CXg X.prog X.w X.K X.mg X.base Ng qg sg g cdg AY stY sY HY Eg).tr pn xe) W) (hW : ∀ cls d σ' H', E cls d H' → W cls d σ' H') (hr : Room (k + 1) (AY.deeper (envOfC qg sg sY.heap.objs.size g cdg)))
    (hbody : ∀ (A : Around) (outer : List Env) (s : Shared) (H : Hp) (c' : Addr), Room k (A.deeper (lamEnv X l.scope s.heap.objs.size f c')) → PE (lamN X A outer s H E l.scope f c') l.body tb)
    (hN : Ng[i]? = some a) (hv : Vis sg a) (hd : (a == ("__debug__" : Str)) = false) (hcd : (a == ("__classdict__" : Str)) = false) :
    PE ((cxOf CXg X.prog X.w X.K X.mg X.base Ng qg sg g cdg AY stY sY HY Eg).tr pn xe) (.Call (.Name a p1) [] [] p2)
      (fun σZ HZ Q => σZ[i]? = some (some (.ref f)) ∧ LamH X HZ l f ∧ tb σ HZ Q) := by
  refine ⟨fun pinsZ sZ σZ HZ Q IZ h => ?_⟩
  obtain ⟨hs, ⟨c', dV, doc, pm, ctv, hf, hc, hdf⟩, ht⟩ := h
  refine wpAny_Call_Name_kw (thn ((pe_var (pos := p1) (i := i) hN hv hd hcd).run pinsZ sZ σZ HZ (fun v H1 => v = .ref f ∧ H1 = HZ) IZ ⟨.ref f, hs, rfl, rfl⟩) fun u s1 ⟨v, H1, I1, r1, q1⟩ => ?_)
  obtain ⟨ev, eH⟩ := q1
  subst ev
  rw [eH] at I1
  obtain rfl : u = Value.ref f := r1
  have of1 : s1.heap.get? f = some (lamO (X.env.qual ++ "<lambda>") l.params l.body l.scope (cloFrom X.env.cells l.scope.names []) dV doc pm c' ctv) := (I1.hok f _ hf).1
  have un : Un (frs X.stack) [] H HZ s.heap s1.heap := Un.then un0 I1.base hst
  refine PySem.W.callWith_F0 ⟨_, _, _, _, of1⟩ ?_
  obtain ⟨⟨oc, vs, t, hoc, hdc, hvc⟩, _, _⟩ := I1.hok c' _ hc
  have rc : codeAny (model X.prog X.w) (AY.deeper (envOfC qg sg sY.heap.objs.size g cdg)) (.call (.ref f) ⟨[], []⟩) (CR (L2N.CX X.prog X.w) (envOfC qg sg sY.heap.objs.size g cdg :: stY) X.prog X.w HZ s1 Q E) s1 := by
    cases e : l.df with
    | none =>
      simp only [LmOk, e] at L
      simp only [e] at hdf
      subst hdf
      obtain ⟨L, hb⟩ := L
      refine PySem.W.kla_callFunE hr.depth of1 rfl L.co L.gen rfl ⟨c', oc, vs, t, rfl, hoc, hdc, hvc⟩ ?_
      rw [hb]
      refine wpAny_pure (wpAny_newFunctionEnv (fun y hy => (L.own y hy).2) (fun y hy => absurd hy (by simp)) (fun h₁ hns hsb => ⟨I1.nolimit.fresh _ hsb, ?_⟩) L.kind)
      show codeAny _ _ (.expr l.body (lamEnv X l.scope s1.heap.objs.size f c')) _ _
      have kp : ∀ b o, s1.heap.get? b = some o → h₁.get? b = some o := fun b o e => hsb.extBut b o (Nat.ne_of_lt (Heap.lt_size e)) (Heap.get?_push_of_some _ e)
      have J0 := lam_start2 (A := AY.deeper (envOfC qg sg sY.heap.objs.size g cdg)) (outer := envOfC qg sg sY.heap.objs.size g cdg :: stY) (s1 := s1) (HZ := HZ) (E := E) (scope := l.scope) (f := f) (c' := c') (tk := s1.toks + ([] : List (Str × Value)).length) I L I1.env0 hr.hd un hns kp
      have J : Inv (lamN X (AY.deeper (envOfC qg sg sY.heap.objs.size g cdg)) (envOfC qg sg sY.heap.objs.size g cdg :: stY) s1 HZ E l.scope f c') [] σ HZ { s1 with heap := h₁, toks := s1.toks + ([] : List (Str × Value)).length } := J0.wish _
      refine PySem.W.kla_codeExpr (wpAny_mono ((hbody _ _ s1 HZ c' (hr.deeper _)).run [] _ _ HZ Q J ht) (fun v s' hq => ?_) fun e s' hq => hq)
      obtain ⟨w', H', J', rv, q⟩ := hq
      exact ⟨w', H', J'.os, J'.bare, J'.base, J'.hok, rv, q⟩
    | some i0 =>
      simp only [LmOk, e] at L
      simp only [e] at hdf
      obtain ⟨t0, rfl, ht0⟩ := hdf
      obtain ⟨p, L, hb⟩ := L
      obtain ⟨_, its, rv0, ot, eo, _, n0, hdo⟩ := I1.hok t0 _ ht0
      obtain ⟨u0, rfl⟩ : ∃ u0, its = [u0] := by
        cases rv0 with
        | cons r t => cases t with | nil => exact ⟨_, rfl⟩
      obtain ⟨kk, hb1, hb2⟩ := hb (X.env.qual ++ "<lambda>") (cloFrom X.env.cells l.scope.names []) t0 doc pm (.ref c') ctv
      refine PySem.W.kla_callFunE hr.depth of1 rfl L.co L.gen rfl ⟨c', oc, vs, t, rfl, hoc, hdc, hvc⟩ ?_
      refine (BindsTo.of_defaults (s := s1) (binds := [(p, u0)]) rfl eo hdo hb1 (hb2 u0)) _ _ _ _ ?_
      refine wpAny_newFunctionEnv (fun y hy => (L.own y hy).1) (fun y hy => by rw [List.mem_singleton] at hy; rw [hy]; exact L.loc) (fun h₁ hns hsb => ⟨I1.nolimit.fresh _ hsb, ?_⟩) L.kind
      show codeAny _ _ (.expr l.body (lamEnv X l.scope s1.heap.objs.size f c')) _ _
      have kp : ∀ b o, s1.heap.get? b = some o → h₁.get? b = some o := fun b o e => hsb.extBut b o (Nat.ne_of_lt (Heap.lt_size e)) (Heap.get?_push_of_some _ e)
      have J0 := lam_start3 (A := AY.deeper (envOfC qg sg sY.heap.objs.size g cdg)) (outer := envOfC qg sg sY.heap.objs.size g cdg :: stY) (s1 := s1) (HZ := HZ) (E := E) (scope := l.scope) (f := f) (c' := c') (tk := s1.toks + [(p, u0)].length) I L I1.env0 hr.hd un hns kp
      have J : Inv (lamN X (AY.deeper (envOfC qg sg sY.heap.objs.size g cdg)) (envOfC qg sg sY.heap.objs.size g cdg :: stY) s1 HZ E l.scope f c') [] σ HZ { s1 with heap := h₁, toks := s1.toks + [(p, u0)].length } := J0.wish _
      refine PySem.W.kla_codeExpr (wpAny_mono ((hbody _ _ s1 HZ c' (hr.deeper _)).run [] _ _ HZ Q J ht) (fun v s' hq => ?_) fun e s' hq => hq)
      obtain ⟨w', H', J', rv, q⟩ := hq
      exact ⟨w', H', J'.os, J'.bare, J'.base, J'.hok, rv, q⟩
  refine wpAny_call (codeAny_mono rc fun r s' hq => ?_)
  cases r with
  | error e => exact L2N.passes_call tk hW pinsZ σZ HZ s1 e s' I1 hq
  | ok fl =>
    cases fl with
    | ret u => exact I1.after hq
    | next => exact False.elim hq
    | brk => exact False.elim hq
    | cont => exact False.elim hq
end
end DL
/-! The data layer, part n-l: a list of lambdas is laid, handed to a def that hands each to a def that calls it. -/
namespace DL
open PySem PySem.Spec PyProof.Rows L2 LamX
/-! ### worlds -/
section
variable {K : PySem.W.Frag} {w w' : Wd} {H1 : Hp} {a : Addr}
theorem bh_ext (ok : Ok K w) (eN : ExtN w.H H1) (T1 : Tabs w.tb H1) : Bh K w (w.at H1) := by
  have kp1 : Kp w (w.at H1) := Kp.of (fun b u hm e n => ⟨hm.at, eN b u e n⟩) (fun r b u e => ⟨e, fun q => by
    obtain ⟨xs, rfl⟩ := ok.ll r b u e
    exact eN b _ q (fun ps z => by cases z)⟩) rfl rfl rfl
  exact ⟨kp1, ⟨fun b m e => by
      obtain ⟨u, q, n1, _⟩ := ok.plain e
      exact (ok.mo b m e).mono kp1 (by show H1 b = _; rw [eN b u q n1, q]),
    fun b u e => by
      obtain ⟨xs, rfl⟩ := ok.hl b u e
      exact eN b _ (ok.hid b _ e) (fun ps z => by cases z), ok.ap, fun r b u e => by
      obtain ⟨xs, rfl⟩ := ok.ll r b u e
      exact eN b _ (ok.len r b _ e) (fun ps z => by cases z), ok.lap, ok.lfr, ok.hl, ok.ll, T1⟩, rfl, rfl⟩
theorem fr_ext (ok : Ok K w) {φ : Heap → Prop} (h : w.H a = some (.ext φ)) : Fr w a := by
  refine ⟨?_, ?_, fun r => ?_⟩
  · cases e : w.M a with
    | none => rfl
    | some m =>
      obtain ⟨u, q, _, n2⟩ := ok.plain e
      rw [h] at q
      exact absurd (Option.some.inj q).symm (n2 _)
  · cases e : w.hd a with
    | none => rfl
    | some u =>
      obtain ⟨xs, rfl⟩ := ok.hl a u e
      have q := ok.hid a _ e
      rw [h] at q; cases q
  · cases e : w.ln r a with
    | none => rfl
    | some u =>
      obtain ⟨xs, rfl⟩ := ok.ll r a u e
      have q := ok.len r a _ e
      rw [h] at q; cases q
theorem fr_tup (ok : Ok K w) {xs : List V} (h : w.H a = some (.tup xs)) : Fr w a := by
  refine ⟨?_, ?_, fun r => ?_⟩
  · cases e : w.M a with
    | none => rfl
    | some m =>
      have z := ok.mo a m e
      cases m with
      | lst ds => obtain ⟨xs, h1, _⟩ := z; rw [h] at h1; cases h1
      | bag => obtain ⟨_, _, _, _, _, h1, _⟩ := z; rw [h] at h1; cases h1
      | dK kvs => obtain ⟨_, h1, _⟩ := z; rw [h] at h1; cases h1
      | dT kvs => obtain ⟨_, h1, _⟩ := z; rw [h] at h1; cases h1
      | ins C fs => obtain ⟨_, _, h1, _⟩ := z; rw [h] at h1; cases h1
  · cases e : w.hd a with
    | none => rfl
    | some u =>
      obtain ⟨xs, rfl⟩ := ok.hl a u e
      have q := ok.hid a _ e
      rw [h] at q; cases q
  · cases e : w.ln r a with
    | none => rfl
    | some u =>
      obtain ⟨xs, rfl⟩ := ok.ll r a u e
      have q := ok.len r a _ e
      rw [h] at q; cases q
end
theorem LamH.mono {X : Cx} {K : PySem.W.Frag} {w w' : Wd} {l : Lm} {f : Addr} (ok : Ok K w) (k : Kp w w') (h : LamH X w.H l f) : LamH X w'.H l f := by
  obtain ⟨c', dV, doc, pm, ctv, h1, h2, h3⟩ := h
  have ex : ∀ {a : Addr} {φ : Heap → Prop}, w.H a = some (.ext φ) → w'.H a = some (.ext φ) := fun {a φ} e => by
    obtain ⟨_, u, q1, q2⟩ := k.fr a _ (fr_ext ok e) e (fun ps z => by cases z)
    rw [q1, unl_ext (φ := φ) (show unl u = .ext φ from q2)]
  have tu : ∀ {a : Addr} {xs : List V}, w.H a = some (.tup xs) → w'.H a = some (.tup xs) := fun {a xs} e => by
    obtain ⟨_, u, q1, q2⟩ := k.fr a _ (fr_tup ok e) e (fun ps z => by cases z)
    rw [q1, unl_tup (show unl u = .tup xs from q2)]
  refine ⟨c', dV, doc, pm, ctv, ex h1, ex h2, ?_⟩
  split at h3
  · exact h3
  · obtain ⟨t0, e, q⟩ := h3
    exact ⟨t0, e, tu q⟩
/-- the lambdas stand there, one behind the other -/
def LamsH (X : Cx) (H : Hp) : List Lm → List Addr → Prop
  | [], fs => fs = []
  | l :: ls, fs => ∃ f r, fs = f :: r ∧ LamH X H l f ∧ LamsH X H ls r
theorem LamsH.mono {X : Cx} {K : PySem.W.Frag} {w w' : Wd} (ok : Ok K w) (k : Kp w w') : ∀ {ls : List Lm} {fs : List Addr}, LamsH X w.H ls fs → LamsH X w'.H ls fs
  | [], _, h => h
  | l :: ls, _, ⟨f, r, e, h, t⟩ => ⟨f, r, e, h.mono ok k, LamsH.mono ok k t⟩
theorem LamsH.len {X : Cx} {H : Hp} : ∀ {ls : List Lm} {fs : List Addr}, LamsH X H ls fs → fs.length = ls.length
  | [], _, h => by rw [show _ = [] from h]; rfl
  | l :: ls, _, ⟨f, r, e, h, t⟩ => by rw [e, List.length_cons, List.length_cons, LamsH.len t]
def tLams (X : Cx) (T : List (Addr × Str)) : List Lm → TA
  | [] => tNil
  | l :: ls => tCons (tLamV X T l) (tLams X T ls)
theorem lams_run {X : Cx} {σ : L2.St} : ∀ (ls : List Lm) (w : Wd) (Qn : List V → Hp → Prop), Ok X.K w → (∀ fs H1, Bh X.K w (w.at H1) → LamsH X H1 ls fs → Qn (fs.map V.ref) H1) → tLams X w.tb ls σ w.H Qn
  | [], w, Qn, ok, k => by
    have := k [] w.H (by exact Bh.refl ok) rfl
    exact this
  | l :: ls, w, Qn, ok, k => by
    refine ⟨ok.tabs, fun f H1 eN T1 hl => ?_⟩
    have b1 := bh_ext ok eN T1
    refine lams_run ls (w.at H1) _ b1.ok fun fs H2 b2 h2 => ?_
    have b : Bh X.K w (w.at H2) := b1.trans b2
    have := k (f :: fs) H2 b ⟨f, fs, rfl, LamH.mono (w := w.at H1) (w' := w.at H2) b1.ok b2.kp hl, h2⟩
    exact this
theorem rp_refs {K : PySem.W.Frag} {w : Wd} : ∀ (fs : List Addr), RpL K w (fs.map D.ref) (fs.map V.ref)
  | [] => rfl
  | f :: r => ⟨_, _, rfl, rfl, rp_refs r⟩
@[simp] def dAsks (i n : Nat) (tR : List Addr → DS) : DS := fun D ρ M => ∀ fs : List Addr, fs.length = n → tR fs D (ρ.set i (some (.lst 0 (fs.map DL.D.ref)))) M
section
variable {X : Cx} {c : Wd} {cl : Str → Addr} {tb : List (Addr × Str)}
theorem pdss_asks {ls : List Lm} {es : List Expr} {i : Nat} {x : Str} {p p' pos : Pos} {rest : List Stmt} {tR : List Addr → DS} (hcc : Cc cl tb c) (hN : X.N.Nodup) (hA : PA X es (tLams X tb ls)) (hn : ls.length ≤ 1000)
    (hR : ∀ (c1 : Wd) (fs : List Addr), Cc cl tb c1 → Ok X.K c1 → LamsH X c1.H ls fs → PDSs c1 X rest (tR fs)) (hi : X.N[i]? = some x := by rfl) (hx : Loc X.env.scope x := by first | exact Or.inl rfl | exact Or.inr rfl) (hs : swapsWith (.List es p) (some (.Name x p')) pos.line X.env = pure false := by rfl) (hf : X.fn x = true ∨ X.env.scope.names.lookup x = some .local := by first | exact .inl rfl | exact .inr rfl) :
    PDSs c X (.Assign [.Name x p'] (.List es p) pos :: rest) (dAsks i ls.length tR) := by
  have hu : PSs X rest (fun D σ H => ∃ c1 fs, Cc cl tb c1 ∧ Ok X.K c1 ∧ LamsH X c1.H ls fs ∧ liftS X.K c1 (tR fs) D σ H) := ⟨fun pins s σ H D I ⟨c1, fs, h1, h2, h3, q⟩ => (hR c1 fs h1 h2 h3).run pins s σ H D I q⟩
  refine PSs_imp (pss_cons (ps_set hN hi hx (pe_lst hA) hs hf) hu) fun D σ H ⟨ρ, w, D', hH, a, h, k⟩ => ?_
  subst hH
  have tbw : w.tb = tb := a.kp.tb.trans hcc.tb
  show tLams X tb ls σ w.H _
  have key : ∀ T, T = w.tb → ∀ Qn, tLams X w.tb ls σ w.H Qn → tLams X T ls σ w.H Qn := fun T e Qn q => by rw [e]; exact q
  refine key tb tbw.symm _ ?_
  refine lams_run ls w _ a.ok fun fs H1 b1 hl => ?_
  have hfl := hl.len
  refine ⟨by rw [List.length_map, hfl]; exact sz (by omega), fun q hq => ?_⟩
  have b2 : Bh X.K (w.at H1) ((w.at H1).at (upd H1 q (.lst (fs.map V.ref)))) := Bh.new b1.ok hq
  have b := b1.trans b2
  have at2 := a.next b
  have rr : RpL X.K (w.at H1) (fs.map DL.D.ref) (fs.map V.ref) := rp_refs _
  have rl := rp_lst (K := X.K) (w := w.at H1) b1.ok hq rr
  refine ⟨(w.at H1).at (upd H1 q (.lst (fs.map V.ref))), fs, hcc.sc (a.kp.trans b.kp).sc, b.ok, LamsH.mono (w := w.at H1) b1.ok b2.kp hl, ρ.set i (some (.lst 0 (fs.map DL.D.ref))), (w.at H1).at (upd H1 q (.lst (fs.map V.ref))), D', rfl, ⟨Kp.refl _, (at2.set rl).re, b.ok, rfl, rfl⟩, h fs hfl, ?_⟩
  have lift : ∀ {w' : Wd} {ρ' : DEnv} {σ' : L2.St}, At X.K ((w.at H1).at (upd H1 q (.lst (fs.map V.ref)))) w' ρ' σ' → At X.K c w' ρ' σ' := fun z => ⟨(a.kp.trans b.kp).trans z.kp, z.re, z.ok, z.hd.trans at2.hd, z.ln.trans at2.ln⟩
  exact { nx := fun ρ' w' σ' q1 b' a' => k.nx ρ' w' σ' q1 (b.trans b') (lift a'), rt := k.rt.back b, bk := fun ρ' w' σ' q1 b' a' => k.bk ρ' w' σ' q1 (b.trans b') (lift a'), ct := fun ρ' w' σ' q1 b' a' => k.ct ρ' w' σ' q1 (b.trans b') (lift a') }
end
end DL
/-! The data layer, part n-m: the def that hands each lambda on, and its call. -/
namespace DL
open PySem PySem.Spec PyProof.Rows L2 LamX
/-- the call of the name a in the frame Y does this -/
def ActIn (cl : Str → Addr) (tb : List (Addr × Str)) (cg : Wd) (Y : Cx) (a : Str) (f : Addr) (tl : DAct) : Prop :=
  ∀ (cb : Wd) (E' : DXK) (pn : List (Addr × Obj)) (xe : Value → Shared → Prop) (p1 p2 : Pos), Cc cl tb cb → Kp cg cb → Tk cb (Y.tr pn xe) E' → PD cb (Y.tr pn xe) (.Call (.Name a p1) [] [] p2) (dAct f tl E')
/-- in each frame of the def x that is called from X, these lambdas act -/
def ActsIn (cl : Str → Addr) (tb : List (Addr × Str)) (k : Nat) (c : Wd) (X : Cx) (Ng : List Str) (x : Str) (st : Stmt) (g : Addr) (a : Str) (acts : List (Addr × DAct)) : Prop :=
  ∀ f tl, (f, tl) ∈ acts → ∀ (w : Wd) (pins : List (Addr × Obj)) (σ : L2.St) (s : Shared), Ok X.K w → Kp c w → Inv X pins σ w.H s → ∀ cdv : Value, Room (k + 1) (X.A.deeper (envOfC x (defScope st) s.heap.objs.size g cdv)) →
    ActIn cl tb w (cxOf CX0 X.prog X.w X.K X.mg X.base Ng x (defScope st) g cdv X.A X.stack s w.H E0) a f tl
@[simp] def dTryA (TT : DAct → Mu → DK → Prop) (acts : List (Addr × DAct)) (te : DE) : DE := fun ρ M Q => te ρ M fun d M1 => ∃ f tl, d = .ref f ∧ (f, tl) ∈ acts ∧ TT tl M1 Q
section
variable {X : Cx} {c : Wd} {cl : Str → Addr} {tb : List (Addr × Str)} {x a y : Str} {st : Stmt} {g : Addr} {fd : FuncData} {Ng : List Str} {k : Nat} {te : DE} {tG : Addr → DAct → DS} {TT : DAct → Mu → DK → Prop} {acts : List (Addr × DAct)} {p p' pos : Pos}
theorem pd_callA (hcc : Cc cl tb c) (F : FunD X.K x x (defArgs st) (defBody st) (defScope st) [] [] g fd) (hm : X.mg x = some (.ref g)) (hb : L2.Binds X.K fd [a] []) (Sg : FnScope Ng [a] (defScope st))
    (hG : ∀ (cdv : Value) (s : Shared) (H : Hp) (f : Addr) (cg : Wd) (tl : DAct), Cc cl tb cg → Room (k + 1) (X.A.deeper (envOfC x (defScope st) s.heap.objs.size g cdv)) →
      (∀ (cb : Wd) (E' : DXK) (pn : List (Addr × Obj)) (xe : Value → Shared → Prop) (p1 p2 : Pos), Cc cl tb cb → Kp cg cb → Tk cb ((cxOf CX0 X.prog X.w X.K X.mg X.base Ng x (defScope st) g cdv X.A X.stack s H E0).tr pn xe) E' →
        PD cb ((cxOf CX0 X.prog X.w X.K X.mg X.base Ng x (defScope st) g cdv X.A X.stack s H E0).tr pn xe) (.Call (.Name a p1) [] [] p2) (dAct f tl E')) →
      PDSs cg (cxOf CX0 X.prog X.w X.K X.mg X.base Ng x (defScope st) g cdv X.A X.stack s H E0) (defBody st) (tG f tl))
    (hT : ∀ f tl M Q, TT tl M Q → tG f tl { nx := fun _ M' => Q .non M', rt := Q } (startD Ng [.ref f]) M)
    (hact : ActsIn cl tb k c X Ng x st g a acts) (hr : Room (k + 2) X.A) (he : PD c X (.Name y p') te)
    (hg : Gl X x := by rfl) (hdb : (x == ("__debug__" : Str)) = false := by decide) :
    PD c X (.Call (.Name x p) [.Name y p'] [] pos) (dTryA TT acts te) := by
  refine ⟨fun pins s σ H Q I ⟨ρ, w, Q', hH, at0, h, kw⟩ => ?_⟩
  subst hH
  obtain ⟨oc, od, dV, kV, doc, pm, an, cdv, ct, osl, rfl, lk, hcg, _, _⟩ := F.ex
  refine wpAny_Call_Name_kw (ld_glob I hg hm ?_ hdb)
  refine PySem.W.callWith_K (h₀ := X.base) I.ok.mod.kin F.kp ?_ (by rfl) (by rfl)
  show wpAny _ _ (spliced ((false, eval (.Name y p') X.env) :: backTo pos (starEach [] X.env))) _ _ s
  refine Calls.spliced_cons (thn (he.run pins s σ w.H (fun v H1 => ∃ f tl w1, v = .ref f ∧ H1 = w1.H ∧ (f, tl) ∈ acts ∧ Bh X.K w w1 ∧ TT tl w1.M Q') I ⟨ρ, w, _, rfl, at0, h, fun d w' v ⟨f, tl, e, hf, q⟩ b r => by
    subst e
    obtain rfl : v = .ref f := r
    exact ⟨f, tl, w', rfl, rfl, hf, b, q⟩⟩) fun u s1 ⟨v, H1, I1, r1, f, tl, w1, ev, eH, hf, b1, ht⟩ => ?_)
  subst ev eH
  obtain rfl : u = Value.ref f := r1
  refine Calls.spliced_nil ⟨I1.kIn, ?_⟩
  have w1cc : Cc cl tb w1 := hcc.sc (at0.kp.trans b1.kp).sc
  have rc : codeAny (model X.prog X.w) X.A (.call (.ref g) ⟨[.ref f], []⟩) (CR CX0 X.stack X.prog X.w w1.H s1 Q E0) s1 := by
    refine run_ofS (k := k + 1) (N := Ng) (ps := [a]) (us := [.ref f]) (vs := [.ref f]) lk hcg Sg hr I1.env0 (hb s1 [.ref f] I1.kIn rfl) (.cons rfl .nil) rfl fun hr' => ?_
    refine ⟨_, hG cdv s1 w1.H f w1 tl w1cc hr' (hact f tl hf w1 pins σ s1 b1.ok (at0.kp.trans b1.kp) I1 cdv hr'), ?_⟩
    exact ⟨startD Ng [.ref f], w1, _, rfl, ⟨Kp.refl _, RE.start ⟨_, _, rfl, rfl, rfl⟩, b1.ok, rfl, rfl⟩, hT f tl _ Q' ht, { nx := fun ρ' w' σ' q b a => (kw.back b1) .non w' .non q b rfl, rt := kw.back b1, bk := fun _ _ _ q => q.elim, ct := fun _ _ _ q => q.elim }⟩
  refine wpAny_call (codeAny_mono rc fun r s2 hq => ?_)
  cases r with
  | error e => exact (show False from hq).elim
  | ok fl =>
    cases fl with
    | ret u => exact I1.after hq
    | next => exact False.elim hq
    | brk => exact False.elim hq
    | cont => exact False.elim hq
end
/-- the same, by what stands since the call of the frame ahead -/
def ActsAt (cl : Str → Addr) (tb : List (Addr × Str)) (k : Nat) (c : Wd) (X : Cx) (s : Shared) (H : Hp) (A2 : Around) (st2 : List Env) (Ng : List Str) (x : Str) (st : Stmt) (g : Addr) (a : Str) (acts : List (Addr × DAct)) : Prop :=
  ∀ f tl, (f, tl) ∈ acts → ∀ (w : Wd) (s2 : Shared), Ok X.K w → Kp c w → Un (frs X.stack) [] H w.H s.heap s2.heap → ∀ cdv : Value, Room (k + 1) (A2.deeper (envOfC x (defScope st) s2.heap.objs.size g cdv)) →
    ActIn cl tb w (cxOf CX0 X.prog X.w X.K X.mg X.base Ng x (defScope st) g cdv A2 st2 s2 w.H E0) a f tl
@[simp] def dTries (fs : List Addr) (tLs : List (DXK → DE)) (TTs : List DAct → Mu → DK → Prop) (te : DE) : DE := fun ρ M Q => te ρ M fun d M1 => ∃ r, d = .lst r (fs.map D.ref) ∧ TTs (tLs.map fun tL => fun E M' Q' => tL E ρ M' Q') M1 Q
theorem frs_new {X : Cx} {s : Shared} {qg : Str} {sg : Scope} {g : Addr} {cdg : Value} : ∀ x o, s.heap.get? x = some o → x ∉ frs X.stack → x ∉ frs (envOfC qg sg s.heap.objs.size g cdg :: X.stack) := fun x o e h z => by
  rcases List.mem_filterMap.mp z with ⟨n, hn, q⟩
  rcases List.mem_cons.mp hn with rfl | hn
  · have : s.heap.objs.size = x := Option.some.inj q
    exact Nat.lt_irrefl _ (this ▸ Heap.lt_size e)
  · exact h (List.mem_filterMap.mpr ⟨n, hn, q⟩)
section
variable {X : Cx} {c : Wd} {cl : Str → Addr} {tb : List (Addr × Str)} {x a y xt b : Str} {st stt : Stmt} {g gt : Addr} {fdt : FuncData} {Ng Nt : List Str} {k : Nat} {te : DE} {tGt : List (Addr × DAct) → DS} {TTs : List DAct → Mu → DK → Prop} {fs : List Addr} {ls : List Lm} {tLs : List (DXK → DE)} {p p' pos : Pos}
/-- one lambda of the list acts, deep below -/
theorem act_deep {pins : List (Addr × Obj)} {σ : L2.St} {s : Shared} {ρ : DEnv} {w1 : Wd} {l : Lm} {f : Addr} {tL : DXK → DE} {cdt : Value} (w1cc : Cc cl tb w1) (ok1 : Ok X.K w1) (re1 : RE X.K w1 ρ σ) (I : Inv X pins σ w1.H s) (L : LmOk X l) (hl : LamH X w1.H l f)
    (hbody : ∀ (A : Around) (outer : List Env) (s : Shared) (H : Hp) (E : XK) (f c' : Addr) (cL : Wd) (E' : DXK), Cc cl tb cL → Tk cL (lamN X A outer s H E l.scope f c') E' → Room k (A.deeper (lamEnv X l.scope s.heap.objs.size f c')) → PD cL (lamN X A outer s H E l.scope f c') l.body (tL E'))
    (hNg : Ng[0]? = some a) (hva : Vis (defScope st) a) (hd : (a == ("__debug__" : Str)) = false) (hcd : (a == ("__classdict__" : Str)) = false)
    {w : Wd} {s2 : Shared} (okw : Ok X.K w) (kw : Kp w1 w) (un : Un (frs X.stack) [] w1.H w.H s.heap s2.heap) {cdv : Value}
    (hr : Room (k + 1) ((X.A.deeper (envOfC xt (defScope stt) s.heap.objs.size gt cdt)).deeper (envOfC x (defScope st) s2.heap.objs.size g cdv))) :
    ActIn cl tb w (cxOf CX0 X.prog X.w X.K X.mg X.base Ng x (defScope st) g cdv (X.A.deeper (envOfC xt (defScope stt) s.heap.objs.size gt cdt)) (envOfC xt (defScope stt) s.heap.objs.size gt cdt :: X.stack) s2 w.H E0) a f (fun E M' Q' => tL E ρ M' Q') := by
  intro cb E' pn xe p1 p2 bcc bkp btk
  have act := pe_actT (E := XKof X.K cb E') (tb := fun σ H Q => ∃ cL : Wd, Cc cl tb cL ∧ Bh X.K cb cL ∧ lift X.K cL (tL E') σ H Q) (p1 := p1) (p2 := p2) (i := 0) (f := f) (l := l) I L un frs_new btk (fun _ _ _ _ h => h) hr
    (fun A outer s2 H2 c' hr2 => ⟨fun pins2 s3 σ3 H3 Q3 I3 ⟨cL, e1, e3, q⟩ => (hbody A outer s2 H2 _ f c' cL E' e1 (tkL fun n fs w' dd vs ee b' fr hx r => ⟨n, fs, w', dd, vs, by rw [e3.kp.cl], rfl, rfl, e3.trans b', fr, hx, r, ee⟩) hr2).run pins2 s3 σ3 H3 Q3 I3 q⟩) hNg hva hd hcd
  refine PE_imp act fun σZ HZ QZ ⟨ρZ, wZ, QZ', hHZ, aZ, ⟨h0, hq⟩, kZ⟩ => ?_
  subst hHZ
  have kpZ : Kp w1 wZ := (kw.trans bkp).trans aZ.kp
  obtain ⟨v0, e0, r0⟩ := aZ.re.2 0 _ h0
  obtain rfl : v0 = .ref f := r0
  exact ⟨e0, LamH.mono ok1 kpZ hl, wZ, bcc.sc aZ.kp.sc, aZ.bh, ρ, wZ, QZ', rfl, ⟨Kp.refl _, re1.mono kpZ, aZ.ok, rfl, rfl⟩, hq, kZ⟩
def LamsB (cl : Str → Addr) (tb : List (Addr × Str)) (k : Nat) (X : Cx) : List Lm → List (DXK → DE) → Prop
  | [], ts => ts = []
  | l :: ls, ts => ∃ tL r, ts = tL :: r ∧ LmOk X l ∧ (∀ (A : Around) (outer : List Env) (s : Shared) (H : Hp) (E : XK) (f c' : Addr) (cL : Wd) (E' : DXK), Cc cl tb cL → Tk cL (lamN X A outer s H E l.scope f c') E' → Room k (A.deeper (lamEnv X l.scope s.heap.objs.size f c')) → PD cL (lamN X A outer s H E l.scope f c') l.body (tL E')) ∧ LamsB cl tb k X ls r
theorem lams_mem {H : Hp} {ρ : DEnv} : ∀ {ls : List Lm} {fs : List Addr} {ts : List (DXK → DE)}, LamsH X H ls fs → LamsB cl tb k X ls ts → ∀ f tl, (f, tl) ∈ fs.zip (ts.map fun tL => fun E M' Q' => tL E ρ M' Q') → ∃ (l : Lm) (tL : DXK → DE), tl = (fun E M' Q' => tL E ρ M' Q') ∧ LmOk X l ∧ LamH X H l f ∧
    (∀ (A : Around) (outer : List Env) (s : Shared) (H : Hp) (E : XK) (f c' : Addr) (cL : Wd) (E' : DXK), Cc cl tb cL → Tk cL (lamN X A outer s H E l.scope f c') E' → Room k (A.deeper (lamEnv X l.scope s.heap.objs.size f c')) → PD cL (lamN X A outer s H E l.scope f c') l.body (tL E'))
  | [], fs, ts, h, _, f, tl, hm => by rw [show fs = [] from h] at hm; cases hm
  | l :: ls, fs, ts, ⟨f0, r, e, h1, h2⟩, ⟨tL, r', e', o, hb, t⟩, f, tl, hm => by
    subst e e'
    rw [List.map_cons, List.zip_cons_cons] at hm
    rcases List.mem_cons.mp hm with q | q
    · cases q; exact ⟨l, tL, rfl, o, h1, hb⟩
    · exact lams_mem h2 t f tl q
theorem LamsB.len : ∀ {ls : List Lm} {ts : List (DXK → DE)}, LamsB cl tb k X ls ts → ts.length = ls.length
  | [], _, h => by rw [show _ = [] from h]; rfl
  | l :: ls, _, ⟨_, r, e, _, _, t⟩ => by rw [e, List.length_cons, List.length_cons, LamsB.len t]
theorem pd_tries (hcc : Cc cl tb c) (okc : Ok X.K c) (F : FunD X.K xt xt (defArgs stt) (defBody stt) (defScope stt) [] [] gt fdt) (hm : X.mg xt = some (.ref gt)) (hb : L2.Binds X.K fdt [b] []) (Sg : FnScope Nt [b] (defScope stt))
    (hlh : LamsH X c.H ls fs) (hlb : LamsB cl tb k X ls tLs)
    (hG : ∀ (cdv : Value) (s : Shared) (H : Hp) (cg : Wd) (acts : List (Addr × DAct)), Cc cl tb cg → Room (k + 2) (X.A.deeper (envOfC xt (defScope stt) s.heap.objs.size gt cdv)) →
      ActsAt cl tb k cg X s H (X.A.deeper (envOfC xt (defScope stt) s.heap.objs.size gt cdv)) (envOfC xt (defScope stt) s.heap.objs.size gt cdv :: X.stack) Ng x st g a acts → PDSs cg (cxOf CX0 X.prog X.w X.K X.mg X.base Nt xt (defScope stt) gt cdv X.A X.stack s H E0) (defBody stt) (tGt acts))
    (hT : ∀ (acts : List (Addr × DAct)) r M Q, TTs (acts.map (·.2)) M Q → tGt acts { nx := fun _ M' => Q .non M', rt := Q } (startD Nt [.lst r (acts.map fun q => .ref q.1)]) M)
    (hNg : Ng[0]? = some a) (hva : Vis (defScope st) a) (hd : (a == ("__debug__" : Str)) = false) (hcd : (a == ("__classdict__" : Str)) = false)
    (hr : Room (k + 3) X.A) (he : PD c X (.Name y p') te) (hg : Gl X xt := by rfl) (hdb : (xt == ("__debug__" : Str)) = false := by decide) :
    PD c X (.Call (.Name xt p) [.Name y p'] [] pos) (dTries fs tLs TTs te) := by
  refine ⟨fun pins s σ H Q I ⟨ρ, w, Q', hH, at0, h, kw⟩ => ?_⟩
  subst hH
  obtain ⟨oc, od, dV, kV, doc, pm, an, cdv, ct, osl, rfl, lk, hcg, _, _⟩ := F.ex
  refine wpAny_Call_Name_kw (ld_glob I hg hm ?_ hdb)
  refine PySem.W.callWith_K (h₀ := X.base) I.ok.mod.kin F.kp ?_ (by rfl) (by rfl)
  show wpAny _ _ (spliced ((false, eval (.Name y p') X.env) :: backTo pos (starEach [] X.env))) _ _ s
  refine Calls.spliced_cons (thn (he.run pins s σ w.H (fun v H1 => ∃ r w1, Rp X.K w1 (.lst r (fs.map D.ref)) v ∧ H1 = w1.H ∧ Bh X.K w w1 ∧ TTs (tLs.map fun tL => fun E M' Q' => tL E ρ M' Q') w1.M Q') I ⟨ρ, w, _, rfl, at0, h, fun d w' v ⟨r, e, q⟩ b rr => by
    subst e
    exact ⟨r, w', rr, rfl, b, q⟩⟩) fun u s1 ⟨v, H1, I1, r1, r, w1, rv, eH, b1, ht⟩ => ?_)
  subst eH
  refine Calls.spliced_nil ⟨I1.kIn, ?_⟩
  have at1 := at0.next b1
  have w1cc : Cc cl tb w1 := hcc.sc at1.kp.sc
  have hl1 : LamsH X w1.H ls fs := hlh.mono okc at1.kp
  have hzl : fs.length = tLs.length := by rw [hl1.len, hlb.len]
  have rc : codeAny (model X.prog X.w) X.A (.call (.ref gt) ⟨[u], []⟩) (CR CX0 X.stack X.prog X.w w1.H s1 Q E0) s1 := by
    refine run_ofS (k := k + 2) (N := Nt) (ps := [b]) (us := [u]) (vs := [v]) lk hcg Sg hr I1.env0 (hb s1 [u] I1.kIn rfl) (.cons r1 .nil) rfl fun hr' => ?_
    refine ⟨_, hG cdv s1 w1.H w1 (fs.zip (tLs.map fun tL => fun E M' Q' => tL E ρ M' Q')) w1cc hr' (fun f tl hmem w2 s2 ok2 kp2 un2 cdv2 hr2 => ?_), ?_⟩
    · obtain ⟨l, tL, rfl, lo, lh, lb⟩ := lams_mem hl1 hlb f tl hmem
      exact act_deep w1cc b1.ok at1.re I1 lo lh lb hNg hva hd hcd ok2 kp2 un2 hr2
    · have ez : (fs.zip (tLs.map fun tL => fun E M' Q' => tL E ρ M' Q')).map (·.2) = tLs.map fun tL => fun E M' Q' => tL E ρ M' Q' := by
        rw [List.map_snd_zip]; simp [hzl]
      have ef : (fs.zip (tLs.map fun tL => fun E M' Q' => tL E ρ M' Q')).map (fun q => D.ref q.1) = fs.map D.ref := by
        rw [show (fun q : Addr × DAct => D.ref q.1) = D.ref ∘ Prod.fst from rfl, ← List.map_map, List.map_fst_zip]; simp [hzl]
      have hq := hT (fs.zip (tLs.map fun tL => fun E M' Q' => tL E ρ M' Q')) r w1.M Q' (by rw [ez]; exact ht)
      rw [ef] at hq
      exact ⟨startD Nt [.lst r (fs.map D.ref)], w1, _, rfl, ⟨Kp.refl _, RE.start ⟨_, _, rfl, rv, rfl⟩, b1.ok, rfl, rfl⟩, hq, { nx := fun ρ' w' σ' q b a => (kw.back b1) .non w' .non q b rfl, rt := kw.back b1, bk := fun _ _ _ q => q.elim, ct := fun _ _ _ q => q.elim }⟩
  refine wpAny_call (codeAny_mono rc fun r s2 hq => ?_)
  cases r with
  | error e => exact (show False from hq).elim
  | ok fl =>
    cases fl with
    | ret u => exact I1.after hq
    | next => exact False.elim hq
    | brk => exact False.elim hq
    | cont => exact False.elim hq
end
end DL
/-! The data layer, part n-n: a comprehension whose element knows from where its block was entered. -/
namespace DL
open PySem PySem.Spec PyProof.Rows L2 LamX
/-- the block's entry: a state of the frame X; what turns there is younger than the frame -/
def Entry (X : Cx) (t : Shared) (G : Hp) (fp : List Addr) : Prop := (∃ pins σ, Inv X pins σ G t) ∧ ∀ b ∈ fp, b ∈ X.ex ∨ X.s_0.heap.objs.size ≤ b
section
variable {X : Cx} {tg iter elt : Expr} {scope : Scope} {own : List (Str × Nat)} {wi : TI} {g : TG} {te : TE} {pos : Pos}
def tYes : TT := fun _ H Q => Q true H
theorem pe_lcI (hc : X.calm = true) (hN : X.N.Nodup) (hi : PI X tg iter wi) (ok : BlkOk X.N X.env.scope scope own) (hg : ∀ (t : Shared) (G : Hp) (C : Addr) (cs : List (Str × Addr)) (fp : List Addr), PG (X.blk t G scope (compEnvC scope cs C X.env) fp) tg g)
    (he : ∀ (t : Shared) (G : Hp) (C : Addr) (cs : List (Str × Addr)) (fp : List Addr), Entry X t G fp → PE (X.blk t G scope (compEnvC scope cs C X.env) fp) elt te) (hs : ∀ x, foldedSetIterable iter X.env x = pure x := by intro _; rfl) :
    PE X (.ListComp elt [⟨tg, iter, [], 0⟩] scope pos) (tLc wi g tYes te (own.map (·.2))) := by
  refine ⟨fun pins s σ H Q I want => ?_⟩
  have hasC : ∀ y ∈ scope.names, y.2 = .free → ∃ c, X.env.cells.lookup y.1 = some c := fun y hy e => (ok.free y hy e).elim (fun k => I.ok.has _ (.inl k)) fun k => I.ok.has _ (.inr k)
  rw [eval_ListComp]
  refine wpAny_comprehension_free (use := none) rfl hs (closure_ok hasC) ok.kind (fun y hy e => (ok.uniq y hy).trans (congrArg some e)) (thn (hi.run pins s σ H _ I want) fun _ _ first => thn first fun itv a2 came => ?_)
  obtain ⟨it, fp, tn, J, Ha, rfl, Ia, T, begun, young, mk⟩ := came
  refine wpAny_newObj_type (newEnv_comp ?_) (by show 0 ≤ sizeLine; decide)
  obtain ⟨W, ⟨m0, w0⟩, turn⟩ := mk a2.heap.objs.size (Ia.hok.fresh (Nat.le_refl _))
  -- the list that is made
  have Ib : Inv X pins σ (upd Ha a2.heap.objs.size (.lst [])) { a2 with heap := a2.heap.push { cls := .type "list", data := .seq ([] : List Value).toArray } } :=
    Ia.laid (t' := a2.toks) (fun _ _ e => Heap.get?_push_of_some _ e) (Nat.le_refl _) ⟨Nat.zero_le _, [], 0, .nil, Heap.get?_push_size _ rfl⟩
  have older : ∀ b ∈ fp, b < a2.heap.objs.size := fun b hb => (T.obj _ _ begun b hb).elim fun _ z => Heap.lt_size z.1
  generalize hL : a2.heap.objs.size = L at *
  generalize hb : ({ a2 with heap := a2.heap.push { cls := .type "list", data := .seq ([] : List Value).toArray } } : Shared) = b0 at *
  have hbh : b0.heap = a2.heap.push { cls := .type "list", data := .seq ([] : List Value).toArray } := by rw [← hb]
  generalize hG : upd Ha L (.lst []) = G at *
  have youngB : ∀ b ∈ fp, FpOk X pins G b ∧ b < b0.heap.objs.size := fun b hb' => by
    obtain ⟨y1, y2⟩ := young b hb'
    refine ⟨⟨?_, y2⟩, by rw [hbh, Heap.size_push, hL]; exact Nat.lt_succ_of_lt (older b hb')⟩
    rw [← hG, upd_ne (Nat.ne_of_lt (older b hb'))]; exact y1
  have Ic := block_start Ib ok hN youngB
  have entry : Entry X b0 G fp := ⟨⟨pins, σ, Ib⟩, fun b hb' => (youngB b hb').1.2.2.2.1⟩
  have peS := he b0 G b0.heap.objs.size (cellsFrom (b0.heap.objs.size + 1) scope.names (cloFrom X.env.cells scope.names [])) fp entry
  have pgS := hg b0 G b0.heap.objs.size (cellsFrom (b0.heap.objs.size + 1) scope.names (cloFrom X.env.cells scope.names [])) fp
  show codeAny _ _ (.compStart (.ListComp elt [⟨tg, iter, [], 0⟩] scope pos) 0 (.ref it) (.ref L) (compEnvC scope (cellsFrom (b0.heap.objs.size + 1) scope.names (cloFrom X.env.cells scope.names [])) b0.heap.objs.size X.env)) (compPost (model X.prog X.w) X.A X.xe none (EP X pins σ Q) (.ref L) b0.heap.objs.size) { b0 with heap := pushCells (b0.heap.push { cls := .type "dict", data := .dict #[] }) scope.names }
  generalize hE : compEnvC scope (cellsFrom (b0.heap.objs.size + 1) scope.names (cloFrom X.env.cells scope.names [])) b0.heap.objs.size X.env = E at *
  have locE : E.locals = b0.heap.objs.size := by rw [← hE]; rfl
  generalize hb1 : ({ b0 with heap := pushCells (b0.heap.push { cls := .type "dict", data := .dict #[] }) scope.names } : Shared) = b1 at *
  have begun1 : tn 0 b1.heap := by
    refine T.keep _ _ _ begun fun b _ o e => ?_
    rw [← hb1]
    refine pushCells_keeps _ _ _ _ (Heap.get?_push_of_some _ ?_)
    rw [hbh]; exact Heap.get?_push_of_some _ e
  have turnsOk : ∀ {τ : L2.St} {G' : Hp} {t : Shared}, Inv (X.blk b0 G scope E fp) [] τ G' t → (∀ b ∈ fp, G' b = none) → ∀ b ∈ fp, FpOk (X.blk b0 G scope E fp) [] G' b := fun V n b hb' =>
    ⟨n b hb', (V.ok.exf b hb').1, V.ok.exfs b hb', .inl hb', (V.ok.exf b hb').2, fun p hp => by cases hp⟩
  have run : codeAny (model X.prog X.w) X.A (.compLoop (.ListComp elt [⟨tg, iter, [], 0⟩] scope pos) 0 (.ref it) (.ref L) E) (compPost (model X.prog X.w) X.A X.xe none (EP X pins σ Q) (.ref L) b0.heap.objs.size) b1 := by
    refine compLoop_any (fun n t => ∃ i G', Inv (X.blk b0 G scope E fp) [] (wipe σ (own.map (·.2))) G' t ∧ tn i t.heap ∧ (∀ b ∈ fp, G' b = none) ∧ W i n G') (fun n t ⟨i, G', V, here, none', w⟩ => ?_) m0 ⟨0, G, Ic, begun1, fun b hb' => (youngB b hb').1.1, w0⟩
    rcases turn i n G' w with ⟨stop, fin⟩ | ⟨go, Nx, onward, step⟩
    · refine thnF (T.done (X.blk b0 G scope E fp) rfl rfl rfl hc i [] t _ G' (fun _ _ => False) V (turnsOk V none') here stop) fun r t' ⟨hr, V'⟩ => ?_
      subst hr
      have back : Inv X pins σ G' t' := Ib.call' (ch := fp) V'.os V'.base V'.hok V'.bare fun b hb' => ⟨(youngB b hb').1.2.2.2.1, (youngB b hb').1.2.1, (youngB b hb').1.2.2.2.2.1, (youngB b hb').1.2.2.2.2.2⟩
      have freeE : G' b0.heap.objs.size = none := locE ▸ (show G' E.locals = none from V'.free)
      obtain ⟨m, ns, _⟩ := V'.loc
      have ns' : t'.heap.Ns E.locals m := ns
      rw [locE] at ns'
      obtain ⟨f0, f1, f2, f3, f4, f5⟩ := Ib.fpOk (Nat.le_refl _) freeE
      exact ⟨m, ns', fun h'' sb => ⟨.ref L, G', back.turned (t' := t'.toks) (fun b o hne e => (sb.2 b hne).trans e) f0 f1 f3 f4 f5, rfl, fin⟩⟩
    · refine thnF (T.item (X.blk b0 G scope E fp) rfl rfl rfl hc i [] t _ G' (fun _ _ => False) V (turnsOk V none') here go) fun r t' ⟨u, hr, got⟩ => ?_
      subst hr
      refine thnF got fun _ t2 ⟨x, G2, V2, rx, yx, here2, none2⟩ => ?_
      have V2p := V2.pinned (turnsOk V2 none2) (T.obj _ _ here2)
      refine thnF (pgS.run _ t2 _ G2 x u _ V2p rx (step x G2 yx)) fun _ t3 ⟨τ, G3, V3, hw, q3⟩ => ?_
      have next : ∀ {t' : Shared} {G' : Hp}, Inv (X.blk b0 G scope E fp) ([] ++ pinsAt fp t2.heap) τ G' t' → Nx G' → ∃ m, m < n ∧ ∃ i G', Inv (X.blk b0 G scope E fp) [] (wipe σ (own.map (·.2))) G' t' ∧ tn i t'.heap ∧ (∀ b ∈ fp, G' b = none) ∧ W i m G' := fun {t' G'} V' nx => by
        obtain ⟨m, lt, w'⟩ := onward G' nx
        have still : ∀ b ∈ fp, ∀ o, t2.heap.get? b = some o → t'.heap.get? b = some o ∧ G' b = none := fun b hb' o e => by
          have z := V'.pin (b, o) (List.mem_append_right _ (List.mem_append_right _ (mem_pinsAt hb' e)))
          exact ⟨z.1, z.2.1⟩
        refine ⟨m, lt, i + 1, G', (V'.unpinned (pins := [])).weak (by rw [← hw, wipe_length]) (fun j v e => (wipe_some (hw ▸ e)).1), T.keep _ _ _ here2 fun b hb' o e => (still b hb' o e).1, fun b hb' => ?_, w'⟩
        obtain ⟨o, e, _⟩ := T.obj _ _ here2 b hb'
        exact (still b hb' o e).2
      show wpAny _ _ (forIn [] true _) _ _ _
      refine wpAny_pure ?_
      simp only [if_true]
      have q3 : te τ G3 _ := q3
      refine thnF (peS.run _ t3 τ G3 _ V3 q3) fun z t4 ⟨yv, G4, V4, ry, acc, hacc, hz, nx⟩ => ?_
      exact app_ok (X := X.blk b0 G scope E fp) V4 hacc hz ry fun t5 V5 => next V5 nx
  exact codeAny_compStart_list run (T.self X.A 0 _ _ _ begun1 run)
end
end DL
/-! The data layer, part n-o: a comprehension that hands each lambda of a list to a def. -/
namespace DL
open PySem PySem.Spec PyProof.Rows L2 LamX
theorem Un.then' {fs fs' ex : List Addr} {H H1 H2 : Hp} {h h1 h2 : Heap} (a : Un fs [] H H1 h h1) (b : Un fs' ex H1 H2 h1 h2) (sub : ∀ x o, h.get? x = some o → x ∉ fs → x ∉ fs') (nex : ∀ x o, h.get? x = some o → x ∉ ex) : Un fs [] H H2 h h2 where
  keep := fun c ob q n hc hx => b.keep c ob (a.keep c ob q n hc hx) (a.free c ob q n hx) (sub c ob q hc) (nex c ob q)
  slot := fun c ob q n hc hx => by
    obtain ⟨sl, e1⟩ := a.slot c ob q n hc hx
    obtain ⟨sl', e2⟩ := b.any e1 (a.free c ob q n hx) (nex c ob q)
    exact ⟨sl', e2⟩
  free := fun c ob q n hx => by
    obtain ⟨o', e1⟩ := a.there c ob q hx
    exact b.free c o' e1 (a.free c ob q n hx) (nex c ob q)
  there := fun c ob q hx => by
    obtain ⟨o', e1⟩ := a.there c ob q hx
    exact b.there c o' e1 (nex c ob q)
  tups := fun c xs q => b.tups c xs (a.tups c xs q)
  frzs := fun c o u q => b.frzs c o u (a.frzs c o u q)
  tbls := fun c ps q => by
    obtain ⟨m1, e1⟩ := a.tbls c ps q
    obtain ⟨m2, e2⟩ := b.tbls c _ e1
    exact ⟨m1 ++ m2, by rw [e2, Array.append_assoc]⟩
section
variable {X : Cx} {cl : Str → Addr} {tb : List (Addr × Str)} {k : Nat} {cg c' : Wd} {s : Shared} {H : Hp} {Ng Nt : List Str} {x a xt : Str} {st stt : Stmt} {g gt : Addr} {cdt : Value} {acts : List (Addr × DAct)}
theorem acts_blk {t : Shared} {G : Hp} {fp : List Addr} {scope : Scope} {E : Env} (h : ActsAt cl tb k cg X s H (X.A.deeper (envOfC xt (defScope stt) s.heap.objs.size gt cdt)) (envOfC xt (defScope stt) s.heap.objs.size gt cdt :: X.stack) Ng x st g a acts) (kp : Kp cg c')
    (en : Entry (cxOf CX0 X.prog X.w X.K X.mg X.base Nt xt (defScope stt) gt cdt X.A X.stack s H E0) t G fp) :
    ActsIn cl tb k c' ((cxOf CX0 X.prog X.w X.K X.mg X.base Nt xt (defScope stt) gt cdt X.A X.stack s H E0).blk t G scope E fp) Ng x st g a acts := by
  intro f tl hm w pins σ s2 okw kpw I cdv hr
  obtain ⟨⟨pins1, σ1, I1⟩, yo⟩ := en
  refine h f tl hm w s2 okw (kp.trans kpw) (Un.then' I1.base I.base frs_new fun y o e z => ?_) cdv hr
  rcases yo y z with q | q
  · cases q
  · exact Nat.lt_irrefl _ (Nat.lt_of_lt_of_le (Heap.lt_size e) q)
end
/-! ### the comprehension over data -/
def liftBK (K : PySem.W.Frag) (c0 : Wd) (t : DE) : TE := fun σ H Q => ∃ c, Kp c0 c ∧ lift K c t σ H Q
section
variable {X : Cx} {c : Wd} {ti : DI} {g : DG} {te : DE} {vs : List Nat} {pos : Pos}
theorem comp_impK {K : PySem.W.Frag} {us : List Nat} (hsub : ∀ i ∈ us, i ∈ vs) {σ : L2.St} {H : Hp} {Q : VK} (h : lift K c (dLc ti g dYes te vs) σ H Q) : tLc (liftI K c ti) (liftGB K c us g) tYes (liftBK K c te) vs σ H Q := by
  obtain ⟨ρ, w, Q', hH, a, h, k⟩ := h
  refine ⟨ρ, w, _, hH, a, h, fun ds w1 J q b1 it L hL => ?_⟩
  have a1 := a.next b1
  have fL := b1.ok.fresh hL
  refine ⟨fun i m H' => m = ds.length - i ∧ i ≤ ds.length ∧ ∃ w' acc xs, w'.H = H' ∧ w'.hd = upd w1.hd L (.lst xs) ∧ w'.ln = w1.ln ∧ Kp w1 w' ∧ Ok K w' ∧ RpL K w' acc xs ∧ compi g dYes te (wipeD ρ vs) (ds.drop i) acc w'.M Q',
    ⟨ds.length, by simp, Nat.zero_le _, mk w1 L [], [], [], rfl, rfl, rfl, kp_mk b1.ok (.inl hL), ok_mk b1.ok (.inl hL), rfl, by rw [List.drop_zero]; exact q⟩, ?_⟩
  rintro i m H' ⟨rfl, hi, w', acc, xs, rfl, hhd, hln, kp', ok', racc, hf⟩
  have hdL : w'.hd L = some (.lst xs) := by rw [hhd]; exact upd_same
  obtain ⟨hgo, hst⟩ := it w' kp' ok'
  by_cases hlt : i < ds.length
  · right
    have e0 : ds.drop i = ds[i] :: ds.drop (i + 1) := List.drop_eq_getElem_cons hlt
    have e1 : ds[i]? = some ds[i] := List.getElem?_eq_getElem hlt
    rw [e0] at hf
    obtain ⟨g1, g2⟩ := hgo i _ e1
    refine ⟨g1, fun H2 => ∃ w2 acc2 xs2, w2.H = H2 ∧ w2.hd = upd w1.hd L (.lst xs2) ∧ w2.ln = w1.ln ∧ Kp w1 w2 ∧ Ok K w2 ∧ RpL K w2 acc2 xs2 ∧ compi g dYes te (wipeD ρ vs) (ds.drop (i + 1)) acc2 w2.M Q', fun H2 ⟨w2, acc2, xs2, h1, h2, h3, h4, h5, h6, h7⟩ => ⟨ds.length - (i + 1), by omega, rfl, hlt, w2, acc2, xs2, h1, h2, h3, h4, h5, h6, h7⟩, fun x H'' y => ?_⟩
    obtain ⟨b2, r2⟩ := g2 x H'' y
    have at2 : At K (w'.at H'') (w'.at H'') (wipeD ρ vs) (wipe σ vs) := ⟨Kp.refl _, ((a1.re.wipe vs).mono kp').mono b2.kp, b2.ok, rfl, rfl⟩
    have kp2 : Kp c (w'.at H'') := (a1.kp.trans kp').trans b2.kp
    refine ⟨w'.at H'', kp2.sc, ds[i], wipeD ρ vs, w'.at H'', _, rfl, at2, r2, hf, fun ρ3 w3 σ3 q3 b3 a3 g3 => ?_⟩
    have hag : Ag vs (wipe σ vs) σ3 := ⟨g3.1, fun j hj => g3.2 j (fun z => hj (hsub j z))⟩
    refine ⟨by rw [wipe_ag hag, wipe_ag wipe_wipe], ?_⟩
    have b23 : Bh K w' w3 := b2.trans b3
    refine ⟨w3, kp2.trans b3.kp, ρ3, w3, _, rfl, a3.self, q3, fun d w5 v q5 b5 r5 => ?_⟩
    have b25 : Bh K w' w5 := b23.trans b5
    have hd5 : w5.hd L = some (.lst xs) := by rw [b25.hd]; exact hdL
    have r5' := racc.mono b25.kp
    refine ⟨xs, b25.ok.hid L _ hd5, szlt (by rw [racc.length]; exact q5.1), mk w5 L (xs ++ [v]), acc ++ [d], xs ++ [v], rfl, ?_, b25.ln.trans hln, (kp'.trans b25.kp).trans (kp_mk b25.ok (.inr ⟨_, hd5⟩)), ok_mk b25.ok (.inr ⟨_, hd5⟩), (r5'.append (RpL.one r5)).mono (kp_mk b25.ok (.inr ⟨_, hd5⟩)), q5.2⟩
    show upd w5.hd L _ = _
    rw [b25.hd, hhd, upd_upd]
  · left
    have e : i = ds.length := by omega
    subst e
    rw [List.drop_length] at hf
    refine ⟨hst, ?_⟩
    obtain ⟨kp6, ok6, f6⟩ := shown fL hhd ok'
    exact k (.lst 0 acc) { w' with hd := w1.hd } (.ref L) hf ⟨(b1.kp.trans kp').trans kp6, ok6, b1.hd, hln.trans b1.ln⟩ ⟨L, xs, rfl, LsAt.free f6 (ok'.hid L _ hdL), racc.mono kp6⟩
theorem pd_lcA {elt tg iter : Expr} {scope : Scope} {own : List (Str × Nat)} {us : List Nat} (hc : X.calm = true) (hN : X.N.Nodup) (hi : PDI c X tg iter ti) (ok : BlkOk X.N X.env.scope scope own)
    (hg : ∀ (c' : Wd), SC c c' → ∀ (s : Shared) (H : Hp) (C : Addr) (cl : List (Str × Addr)) (fp : List Addr), PDG c' (X.blk s H scope (compEnvC scope cl C X.env) fp) us tg g)
    (he : ∀ (c' : Wd), Kp c c' → ∀ (s : Shared) (H : Hp) (C : Addr) (cl : List (Str × Addr)) (fp : List Addr), Entry X s H fp → PD c' (X.blk s H scope (compEnvC scope cl C X.env) fp) elt te) (hsub : ∀ i ∈ us, i ∈ own.map (·.2) := by decide) (hs : ∀ x, foldedSetIterable iter X.env x = pure x := by intro _; rfl) :
    PD c X (.ListComp elt [⟨tg, iter, [], 0⟩] scope pos) (dLc ti g dYes te (own.map (·.2))) := PE_imp (pe_lcI hc hN hi ok (fun s H C cl fp => ⟨fun pins sh σ H' v u Q I r ⟨c', e, q⟩ => (hg c' e s H C cl fp).run pins sh σ H' v u Q I r q⟩) (fun s H C cl fp en => ⟨fun pins sh σ H' Q I ⟨c', e, q⟩ => (he c' e s H C cl fp en).run pins sh σ H' Q I q⟩) hs) fun σ H Q h => comp_impK hsub h
end
end DL
/-! Shared by the laws: constants. Printed by a program of mine. -/
namespace HS
open PySem L2 DL
def fl_InvalidMirror : List (Str × (Sum Str Nat)) := [("value", .inr 0), ("code", .inl "InvalidMirror")]
def kv_OFFSETS : List (Str × D) := [("stay", (.tup [(.int 0), (.int 0)])), ("north", (.tup [(.int (-1)), (.int 0)])), ("east", (.tup [(.int 0), (.int 1)])), ("south", (.tup [(.int 1), (.int 0)])), ("west", (.tup [(.int 0), (.int (-1))]))]
end HS
/-! What each shared def promises, over data. -/
namespace HS
open PySem L2 DL
abbrev ty (d : D) : Prop := (tyN d).isSome = true
def isNum : D → Int → Int → Bool
  | .int i, lo, hi => decide (lo ≤ i) && decide (i ≤ hi)
  | _, _, _ => false
def isToll (d : D) : Bool := isNon d || isNum d 0 99
def isWind : D → Bool
  | .tup xs => decide (xs.length = 5) && xs.all isToll
  | _ => false
/-- items of which isinstance may be asked -/
def tys (xs : List D) : Prop := xs.length ≤ 50000 ∧ ∀ x ∈ xs, ty x
def ty1 (d : D) : Prop := ty d ∧ ∀ xs, d = .tup xs → tys xs
def sp_is_number : DSp := fun ds M Q _ => ∃ v lo hi, ds = [v, .int lo, .int hi] ∧ ty v ∧ Q (.bl (isNum v lo hi)) M
def sp_is_wind : DSp := fun ds M Q _ => ∃ v, ds = [v] ∧ ty1 v ∧ Q (.bl (isWind v)) M
def offs (z : Str) : Option (Int × Int) := match kv_OFFSETS.lookup z with
  | some (.tup [.int a, .int b]) => some (a, b)
  | _ => none
def moved (r c : Int) : D → Option D
  | .str z => (offs z).map fun p => .tup [.int (r + p.1), .int (c + p.2)]
  | _ => none
def sp_moved_cell : DSp := fun ds M Q E => ∃ r c d, ds = [.tup [.int r, .int c], d] ∧ ty d ∧ (∀ x, moved r c d = some x → Q x M) ∧ (moved r c d = none → E "InvalidMirror" [("value", d), ("code", .str "InvalidMirror")] M)
def sp__law_bag : DSp := spBag
def sp__law_draw : DSp := spDraw
def sp0__law_draw : DSp := spDraw0
def sp__law_pick : DSp := spPick
def sp__law_same : DSp := spSame 6
abbrev fld (fs : List (Str × D)) (x : Str) : Option D := fs.lookup x
/-- the attributes of an error beside its code -/
def attrs (fs : List (Str × D)) (code : Str) : Option (List D) :=
  if code = "InvalidChart" then (match fld fs "row", fld fs "column" with | some a, some b => some [a, b] | _, _ => none)
  else if code = "InvalidText" then (match fld fs "line", fld fs "why" with | some a, some b => some [a, b] | _, _ => none)
  else if code ∈ (["InvalidWind", "InvalidRegion", "InvalidPath", "InvalidSquall"] : List Str) then (match fld fs "at" with | some a => some [a] | _ => none)
  else if code = "TooMany" then (match fld fs "most" with | some a => some [a] | _ => none)
  else if code ∈ (["InvalidHeights", "OtherChart", "Ended"] : List Str) then some []
  else (match fld fs "value" with | some a => some [a] | _ => none)
def sp__law_field (xn : List Str) : DSp := fun ds M Q _ => ∃ n fs code l, ds = [.exc n fs] ∧ n ∈ xn ∧ fld fs "code" = some (.str code) ∧ PyData.strOk code = true ∧ attrs fs code = some l ∧ Q (.tup l) M
/-- what a call told, or the error it raised -/
def errT (n : Str) (fs : List (Str × D)) (d : D) : Prop := ∃ code l, fld fs "code" = some (.str code) ∧ PyData.strOk code = true ∧ attrs fs code = some l ∧ noXL l = true ∧ l.length ≤ 5 ∧ d = .tup (.str "no" :: .str code :: l)
def TT__law_try (xn : List Str) : DAct → Mu → DK → Prop := fun tl M Q => ∀ (E0 : DXK) (Q0 : DK), (∀ n fs M' d, n ∈ xn → errT n fs d → Q d M' → E0 n fs M') → (∀ d M', Q (.tup [.str "told", d]) M' → Q0 d M') → tl E0 M Q0
def toll (d : D) : Prop := d = .non ∨ ∃ i : Int, d = .int i ∧ 0 ≤ i ∧ i ≤ 99
def gust (ts : List D) : Prop := ts.length = 5 ∧ ∀ t ∈ ts, toll t
def sp__law_gust : DSp := fun ds M Q _ => ∃ b, ds = [.ref b] ∧ M b = some .bag ∧ ∀ ts, gust ts → Q (.tup ts) M
def pairD (a b : Int) : D := .tup [.int a, .int b]
def movesL : List (Int × Int) := [(0, 0), (-1, 0), (0, 1), (1, 0), (0, -1)]
def sp__law_moves : DSp := fun ds M Q _ => ds = [] ∧ Q (.lst 0 (movesL.map fun p => pairD p.1 p.2)) M
end HS
/-! Shared by the laws: readings. Printed by a program of mine. -/
namespace HS
open PySem L2 DL
def t_is_number : DS := (dRet (dAndV (dCB isiD (dCons (dVar 0) (dCons (dC (.ty "int")) dNil))) (dAndV (dNotV (dCB isiD (dCons (dVar 0) (dCons (dC (.ty "bool")) dNil)))) (dChain leD leD (dVar 1) (dVar 0) (dVar 2)))))
def t_is_wind : DS := (dSeq (dIfS (dOr (dNot (dB (dCB isiD (dCons (dVar 0) (dCons (dC (.ty "tuple")) dNil))))) (dB (dOp neD (dCB lenD (dCons (dVar 0) dNil)) (dCB lenD (dCons (dC (.tup [(.str "stay"), (.str "north"), (.str "east"), (.str "south"), (.str "west")])) dNil))))) (dRet (dC (.bl false))) dNext) (dRet (dCB allD (dCons (dLc (dIt (dVar 0)) (gNm 1) dYes (dOrV (dOp isND (dVar 1) (dC .non)) (dCall sp_is_number DX0 (dCons (dVar 1) (dCons (dC (.int 0)) (dCons (dC (.int 99)) dNil))))) [1]) dNil))))
def t_moved_cell (E : DXK) : DS := (dSeq (dIfS (dOr (dNot (dB (dCB isiD (dCons (dVar 1) (dCons (dC (.ty "str")) dNil))))) (dB (dInK true kv_OFFSETS (dVar 1)))) (dRaise E "InvalidMirror" 1 fl_InvalidMirror (dCons (dVar 1) dNil)) dNext) (dSeq (dAsg (dIxK kv_OFFSETS (dVar 1)) (gTp (gsCons (gNm 2) (gsCons (gNm 3) gsNil)) 2)) (dRet (dTup (dCons (dOp addD (dOp ixD (dVar 0) (dC (.int 0))) (dVar 2)) (dCons (dOp addD (dOp ixD (dVar 0) (dC (.int 1))) (dVar 3)) dNil))))))
def t__law_bag_b1 : DS := (dAsg (dOp modD (dCB intD (dCons (dOp addD (dOp mulD (dVar 3) (dC (.int 6947))) (dVar 2)) dNil)) (dC (.int 2147483423))) (gNm 3))
def t__law_bag : DS := (dSeq (dAsg (dLc (dIt (dSl (dVar 0) dNoPart (dPart (dC (.int 63))))) (gNm 2) dYes (dCB intD (dCons (dVar 2) dNil)) [2]) (gNm 1)) (dSeq (dAsg (dOp addD (dC (.int 120310)) (dOp mulD (dC (.int 61)) (dCB lenD (dCons (dVar 1) dNil)))) (gNm 3)) (dSeq (dFor (dIt (dVar 1)) (gNm 2) t__law_bag_b1) (dRet (dBag (dCons (dVar 1) (dCons (dC (.int 0)) (dCons (dC (.int 0)) (dCons (dVar 3) dNil)))))))))
def t__law_draw : DS := (dSeq (dIfS (dB (dOp ltD (dOp ixD (dVar 0) (dC (.int 2))) (dC (.int 2)))) (dSeq (dAsg (dOp addD (dOp ixD (dVar 0) (dC (.int 1))) (dC (.int 1))) (gIx (dVar 0) (dC (.int 1)))) (dSeq (dAsg (dOp addD (dOp ixD (dVar 0) (dC (.int 3))) (dOp mulD (dOp ixD (dVar 0) (dC (.int 1))) (dC (.int 9241)))) (gNm 2)) (dSeq (dIfS (dB (dOp leD (dOp ixD (dVar 0) (dC (.int 1))) (dCB lenD (dCons (dOp ixD (dVar 0) (dC (.int 0))) dNil)))) (dAsg (dOp ixD (dOp ixD (dVar 0) (dC (.int 0))) (dOp subD (dOp ixD (dVar 0) (dC (.int 1))) (dC (.int 1)))) (gNm 2)) dNext) (dSeq (dIfS (dOr (dB (dOp gtD (dOp ixD (dVar 0) (dC (.int 1))) (dCB lenD (dCons (dOp ixD (dVar 0) (dC (.int 0))) dNil)))) (dB (dOp ltD (dVar 2) (dOp powD (dC (.int 10)) (dC (.int 18)))))) (dSeq (dAsg (dOp modD (dCB intD (dCons (dOp addD (dOp addD (dOp mulD (dVar 2) (dC (.int 43051))) (dOp mulD (dOp ixD (dVar 0) (dC (.int 1))) (dC (.int 39119)))) (dOp ixD (dVar 0) (dC (.int 3)))) dNil)) (dC (.int 2147483587))) (gNm 3)) (dSeq (dAsg (dOp modD (dCB intD (dCons (dOp addD (dOp mulD (dVar 3) (dVar 3)) (dOp mulD (dOp ixD (dVar 0) (dC (.int 1))) (dC (.int 60607)))) dNil)) (dC (.int 998244353))) (gNm 4)) (dRet (dOp modD (dOp fdivD (dOp modD (dCB intD (dCons (dOp addD (dOp mulD (dVar 4) (dC (.int 46819))) (dVar 3)) dNil)) (dC (.int 2147483549))) (dC (.int 23))) (dVar 1))))) dNext) (dAsg (dVar 2) (gIx (dVar 0) (dC (.int 2)))))))) dNext) (dSeq (dAsg (dOp modD (dCB intD (dCons (dOp ixD (dVar 0) (dC (.int 2))) dNil)) (dVar 1)) (gNm 5)) (dSeq (dAsg (dOp fdivD (dCB intD (dCons (dOp ixD (dVar 0) (dC (.int 2))) dNil)) (dVar 1)) (gIx (dVar 0) (dC (.int 2)))) (dRet (dVar 5)))))
def t__law_pick : DS := (dRet (dOp ixD (dVar 1) (dCall sp__law_draw DX0 (dCons (dVar 0) (dCons (dCB lenD (dCons (dVar 1) dNil)) dNil)))))
def t__law_same (sp__law_same : DSp) : DS := (dSeq (dIfS (dOr (dB (dOp isND (dVar 1) (dC .non))) (dB (dOp isND (dVar 0) (dC .non)))) (dRet (dAndV (dOp isND (dVar 1) (dC .non)) (dOp isND (dVar 0) (dC .non)))) dNext) (dSeq (dIfS (dOr (dB (dCB isiD (dCons (dVar 1) (dCons (dTup (dCons (dC (.ty "list")) (dCons (dC (.ty "tuple")) dNil))) dNil)))) (dB (dCB isiD (dCons (dVar 0) (dCons (dTup (dCons (dC (.ty "list")) (dCons (dC (.ty "tuple")) dNil))) dNil))))) (dSeq (dIfS (dOr (dB (dOp neD (dCB isiD (dCons (dVar 1) (dCons (dC (.ty "list")) dNil))) (dCB isiD (dCons (dVar 0) (dCons (dC (.ty "list")) dNil))))) (dB (dOp neD (dCB isiD (dCons (dVar 1) (dCons (dC (.ty "tuple")) dNil))) (dCB isiD (dCons (dVar 0) (dCons (dC (.ty "tuple")) dNil)))))) (dRet (dC (.bl false))) dNext) (dRet (dAndV (dOp eqD (dCB lenD (dCons (dVar 0) dNil)) (dCB lenD (dCons (dVar 1) dNil))) (dCB allD (dCons (dLc (dZip (dCons (dVar 0) (dCons (dVar 1) dNil))) (gTp (gsCons (gNm 2) (gsCons (gNm 3) gsNil)) 2) dYes (dCall sp__law_same DX0 (dCons (dVar 2) (dCons (dVar 3) dNil))) [2, 3]) dNil))))) dNext) (dSeq (dIfS (dOr (dB (dOp neD (dCB isiD (dCons (dVar 1) (dCons (dC (.ty "bool")) dNil))) (dCB isiD (dCons (dVar 0) (dCons (dC (.ty "bool")) dNil))))) (dB (dOp neD (dCB isiD (dCons (dVar 1) (dCons (dC (.ty "str")) dNil))) (dCB isiD (dCons (dVar 0) (dCons (dC (.ty "str")) dNil)))))) (dRet (dC (.bl false))) dNext) (dRet (dAndV (dOp eqD (dCB isiD (dCons (dVar 1) (dCons (dC (.ty "int")) dNil))) (dCB isiD (dCons (dVar 0) (dCons (dC (.ty "int")) dNil)))) (dOp eqD (dVar 0) (dVar 1)))))))
def t__law_field (xn : List Str) : DS := (dSeq (dIfS (dB (dOp eqD (dXf xn "code" (dVar 0)) (dC (.str "InvalidChart")))) (dRet (dTup (dCons (dXf xn "row" (dVar 0)) (dCons (dXf xn "column" (dVar 0)) dNil)))) dNext) (dSeq (dIfS (dB (dOp eqD (dXf xn "code" (dVar 0)) (dC (.str "InvalidText")))) (dRet (dTup (dCons (dXf xn "line" (dVar 0)) (dCons (dXf xn "why" (dVar 0)) dNil)))) dNext) (dSeq (dIfS (dB (dOp inD (dXf xn "code" (dVar 0)) (dTup (dCons (dC (.str "InvalidWind")) (dCons (dC (.str "InvalidRegion")) (dCons (dC (.str "InvalidPath")) (dCons (dC (.str "InvalidSquall")) dNil))))))) (dRet (dTup (dCons (dXf xn "at" (dVar 0)) dNil))) dNext) (dSeq (dIfS (dB (dOp eqD (dXf xn "code" (dVar 0)) (dC (.str "TooMany")))) (dRet (dTup (dCons (dXf xn "most" (dVar 0)) dNil))) dNext) (dRet (dIf (dB (dOp inD (dXf xn "code" (dVar 0)) (dTup (dCons (dC (.str "InvalidHeights")) (dCons (dC (.str "OtherChart")) (dCons (dC (.str "Ended")) dNil)))))) (dTup dNil) (dTup (dCons (dXf xn "value" (dVar 0)) dNil))))))))
def t__law_try (xn : List Str) (f : Addr) (tl : DAct) : DS := (dTry2 xn 1 2 (fun E' => (dRet (dTup (dCons (dC (.str "told")) (dCons (dAct f tl E') dNil))))) (dRet (dOp addD (dTup (dCons (dC (.str "no")) (dCons (dXf xn "code" (dVar 1)) dNil))) (dCall (sp__law_field xn) DX0 (dCons (dVar 1) dNil)))))
def t__law_gust : DS := (dRet (dCB tupD (dCons (dLc (dRng1 (dCons (dC (.int 5)) dNil)) (gNm 1) dYes (dCall sp__law_pick DX0 (dCons (dVar 0) (dCons (dLst (dCons (dC .non) (dCons (dC (.int 0)) (dCons (dC (.int 0)) (dCons (dC (.int 0)) (dCons (dC (.int 1)) (dCons (dC (.int 1)) (dCons (dC (.int 2)) (dCons (dC (.int 3)) (dCons (dC (.int 4)) (dCons (dC (.int 99)) (dCons (dCall sp__law_draw DX0 (dCons (dVar 0) (dCons (dC (.int 100)) dNil))) dNil)))))))))))) dNil))) [1]) dNil)))
def t__law_moves : DS := (dRet (dLst (dCons (dTup (dCons (dC (.int 0)) (dCons (dC (.int 0)) dNil))) (dCons (dTup (dCons (dNeg (dC (.int 1))) (dCons (dC (.int 0)) dNil))) (dCons (dTup (dCons (dC (.int 0)) (dCons (dC (.int 1)) dNil))) (dCons (dTup (dCons (dC (.int 1)) (dCons (dC (.int 0)) dNil))) (dCons (dTup (dCons (dC (.int 0)) (dCons (dNeg (dC (.int 1))) dNil))) dNil)))))))
end HS
/-! The shared defs keep their promises, over data. -/
namespace HS
open PySem L2 DL
theorem pure_is_number : ∀ ds M Q E, sp_is_number ds M Q E → ds.length = (["value", "least", "most"] : List Str).length ∧ t_is_number { nx := fun _ M' => Q .non M', rt := Q } (startD ["value", "least", "most"] ds) M := by
  rintro ds M Q E ⟨v, lo, hi, rfl, hty, q⟩
  refine ⟨rfl, ?_⟩
  cases v <;> first | (cases (show false = true from hty); done) | skip
  all_goals simp [t_is_number, inst, tyN, isA, tyNames]
  all_goals simp [isNum] at q
  all_goals first | exact q | skip
  case int i =>
    split
    · rename_i h; simpa [h] using q
    · rename_i h; simpa [h] using q
theorem all_map {α : Type} (l : List α) (p : α → Bool) : (l.map p).all id = l.all p := by simp
theorem pure_is_wind : ∀ ds M Q E, sp_is_wind ds M Q E → ds.length = (["value"] : List Str).length ∧ t_is_wind { nx := fun _ M' => Q .non M', rt := Q } (startD ["value", "toll"] ds) M := by
  rintro ds M Q E ⟨v, rfl, ⟨hty, ht⟩, q⟩
  refine ⟨rfl, ?_⟩
  cases v <;> first | (cases (show false = true from hty); done) | skip
  all_goals simp [t_is_wind, inst, tyN, isA, tyNames]
  all_goals first | exact q | skip
  case tup xs =>
    obtain ⟨h1, h2⟩ := ht xs rfl
    by_cases hl : xs.length = 5
    · simp [hl]
      simp only [isWind, hl, decide_true, Bool.true_and] at q
      refine compi_map (f := fun x => .bl (isToll x)) xs _ _ (fun x hx Q h => ?_) (by simp; omega) ?_
      · have hx' := h2 x hx
        simp [wipeD]
        cases e : isNon x with
        | true => simpa [isToll, e] using h
        | false => simp; exact ⟨x, 0, 99, rfl, hx', by simpa [isToll, e] using h⟩
      · refine ⟨xs.map isToll, by simp, ?_⟩
        simpa using q
    · rw [if_neg (by omega)]
      simpa [isWind, hl] using q
theorem cut_all {α : Type} {xs : List α} {n : Nat} (h : xs.length ≤ n) : cut xs none (some (n : Int)) = xs := by
  unfold cut
  rw [HT.sIx_nat, HT.sIx_none, List.drop_zero, Nat.min_eq_right h, Nat.sub_zero, List.take_length]
theorem pure__law_bag : ∀ ds M Q E, sp__law_bag ds M Q E → ds.length = (["_law_script"] : List Str).length ∧ t__law_bag { nx := fun _ M' => Q .non M', rt := Q } (startD ["_law_script", "_law_cells_z", "_law_cell_z", "_law_mark"] ds) M := by
  rintro ds M Q E ⟨ns, rfl, hl, q⟩
  refine ⟨rfl, ?_⟩
  unfold t__law_bag
  refine s_set (v := .lst 0 (ns.map D.int)) (fun K hK => ?_) ?_
  · simp only [dLc, dIt, dSl, dVar, dNoPart, dPart, dC, startD, slD]
    show compi _ _ _ _ (cut (ns.map D.int) none (some ((63 : Nat) : Int))) _ _ _
    rw [cut_all (by simpa using hl)]
    refine compi_of (f := D.int) _ _ _ (fun n _ Q h => ?_) (by simp; omega) (by simpa using hK)
    simpa [wipeD] using h
  refine s_set (v := .int (120310 + 61 * ns.length)) (fun K hK => ?_) ?_
  · simp
    exact ⟨.inl ⟨by decide, by decide⟩, hK⟩
  refine s_for (ds := ns.map D.int) (fun K hK => by simpa using hK) ?_
  have key : ∀ (l : List Int) (o : Option D) (m : Int), fori (gNm 2) t__law_bag_b1 (l.map D.int)
      { nx := dRet (dBag (dCons (dVar 1) (dCons (dC (.int 0)) (dCons (dC (.int 0)) (dCons (dVar 3) dNil))))) { nx := fun _ M' => Q .non M', rt := Q }, rt := Q } [some (.scr ns), some (.lst 0 (ns.map D.int)), o, some (.int m)] M := by
    intro l
    induction l with
    | nil =>
      intro o m
      refine x_nil ?_
      simp only [dRet, dBag, dCons, dVar, dC, dNil]
      exact ⟨⟨ns, 0, 0, m, rfl, hl, by decide⟩, q⟩
    | cons n l ih =>
      intro o m
      refine x_cons ?_
      refine x_set (v := .int ((m * 6947 + n) % 2147483423)) (fun K hK => ?_) ?_
      · simp
        exact ⟨.inr ⟨by decide, by decide⟩, hK⟩
      · exact ih _ _
  exact key ns none _
theorem at0 {α : Type} {a b c d : α} : atI [a, b, c, d] 0 = some a := rfl
theorem at1 {α : Type} {a b c d : α} : atI [a, b, c, d] 1 = some b := rfl
theorem at2 {α : Type} {a b c d : α} : atI [a, b, c, d] 2 = some c := rfl
theorem at3 {α : Type} {a b c d : α} : atI [a, b, c, d] 3 = some d := rfl
theorem ix1 {α : Type} {a b c d : α} : ixN [a, b, c, d].length 1 = some 1 := rfl
theorem ix2 {α : Type} {a b c d : α} : ixN [a, b, c, d].length 2 = some 2 := rfl
theorem pure__law_draw : ∀ ds M Q E, sp0__law_draw ds M Q E → ds.length = (["_law_bag_here", "_law_many"] : List Str).length ∧ t__law_draw { nx := fun _ M' => Q .non M', rt := Q } (startD ["_law_bag_here", "_law_many", "_law_cell_z", "_law_mixed", "_law_second", "_law_digit"] ds) M := by
  rintro ds M Q E ⟨b, many, cs, i, r, m, rfl, hM, hi, ⟨h1, h2⟩, q⟩
  refine ⟨rfl, ?_⟩
  unfold t__law_draw
  have fin : ∀ (i' : Int) (z : Int) (o : Option D) (M1 : Mu), M1 = setM M b (.lst [.lst 0 (cs.map D.int), .int i', .int z, .int m]) → 0 ≤ i' →
      dSeq (dAsg (dOp modD (dCB intD (dCons (dOp ixD (dVar 0) (dC (.int 2))) dNil)) (dVar 1)) (gNm 5))
        (dSeq (dAsg (dOp fdivD (dCB intD (dCons (dOp ixD (dVar 0) (dC (.int 2))) dNil)) (dVar 1)) (gIx (dVar 0) (dC (.int 2)))) (dRet (dVar 5)))
        { nx := fun _ M' => Q .non M', rt := Q } [some (.ref b), some (.int many), o, none, none, none] M1 := by
    intro i' z o M1 e hi'
    have hM1 : M1 b = some (.lst [.lst 0 (cs.map D.int), .int i', .int z, .int m]) := by rw [e]; exact setM_same
    refine s_set (v := .int (z % many)) (fun K hK => by simp [hM1, at2]; exact ⟨h1, hK⟩) ?_
    refine s_ix rfl hM1 rfl (v := .int (z / many)) (fun K hK => by simp [hM1, at2]; exact ⟨⟨h1, h2⟩, hK⟩) ?_
    refine x_ret (v := .int (z % many)) (fun K hK => by simpa using hK) ?_
    show Q _ _
    rw [e, setM_set]
    exact q _ _ _ (Int.emod_nonneg _ (by omega)) (Int.emod_lt_of_pos _ h1) hi'
  refine s_if (b := decide (r < 2)) (fun K hK => ?_) (fun hr => ?_) (fun hr => ?_)
  · simp [hM, at2]; exact hK
  · refine s_ix rfl hM rfl (v := .int (i + 1)) (fun K hK => by simp [hM, at1]; exact hK) ?_
    show dSeq _ _ _ _ (setM M b (.lst [.lst 0 (cs.map D.int), .int (i + 1), .int r, .int m]))
    generalize hM1 : setM M b (.lst [.lst 0 (cs.map D.int), .int (i + 1), .int r, .int m]) = M1
    have e1 : M1 b = some (.lst [.lst 0 (cs.map D.int), .int (i + 1), .int r, .int m]) := by rw [← hM1]; exact setM_same
    refine s_set (v := .int (m + (i + 1) * 9241)) (fun K hK => by simp [e1, at1, at3]; exact ⟨.inr ⟨by decide, by decide⟩, hK⟩) ?_
    -- the cell: one of the script, or a mixed one
    have rest : ∀ (cell : Int), dSeq (dIfS (dOr (dB (dOp gtD (dOp ixD (dVar 0) (dC (.int 1))) (dCB lenD (dCons (dOp ixD (dVar 0) (dC (.int 0))) dNil)))) (dB (dOp ltD (dVar 2) (dOp powD (dC (.int 10)) (dC (.int 18))))))
        (dSeq (dAsg (dOp modD (dCB intD (dCons (dOp addD (dOp addD (dOp mulD (dVar 2) (dC (.int 43051))) (dOp mulD (dOp ixD (dVar 0) (dC (.int 1))) (dC (.int 39119)))) (dOp ixD (dVar 0) (dC (.int 3)))) dNil)) (dC (.int 2147483587))) (gNm 3))
          (dSeq (dAsg (dOp modD (dCB intD (dCons (dOp addD (dOp mulD (dVar 3) (dVar 3)) (dOp mulD (dOp ixD (dVar 0) (dC (.int 1))) (dC (.int 60607)))) dNil)) (dC (.int 998244353))) (gNm 4))
            (dRet (dOp modD (dOp fdivD (dOp modD (dCB intD (dCons (dOp addD (dOp mulD (dVar 4) (dC (.int 46819))) (dVar 3)) dNil)) (dC (.int 2147483549))) (dC (.int 23))) (dVar 1))))) dNext)
        (dAsg (dVar 2) (gIx (dVar 0) (dC (.int 2))))
        { nx := (dSeq (dAsg (dOp modD (dCB intD (dCons (dOp ixD (dVar 0) (dC (.int 2))) dNil)) (dVar 1)) (gNm 5)) (dSeq (dAsg (dOp fdivD (dCB intD (dCons (dOp ixD (dVar 0) (dC (.int 2))) dNil)) (dVar 1)) (gIx (dVar 0) (dC (.int 2)))) (dRet (dVar 5))) { nx := fun _ M' => Q .non M', rt := Q }), rt := Q } [some (.ref b), some (.int many), some (.int cell), none, none, none] M1 := by
      intro cell
      refine s_if (b := decide ((cs.length : Int) < i + 1) || decide (cell < 10 ^ 18)) (fun K hK => ?_) (fun _ => ?_) (fun _ => ?_)
      · simp [e1, at1, at0]
        have hp : CPow 10 18 := ⟨by decide, by decide, by decide⟩
        split
        · rename_i h; simpa [h] using hK
        · rename_i h; exact ⟨hp, by simpa [h] using hK⟩
      · refine s_set (v := .int ((cell * 43051 + (i + 1) * 39119 + m) % 2147483587)) (fun K hK => by simp [e1, at1, at3]; exact ⟨.inr ⟨by decide, by decide⟩, .inr ⟨by decide, by decide⟩, hK⟩) ?_
        generalize hx : (cell * 43051 + (i + 1) * 39119 + m) % 2147483587 = x
        have hx1 : 0 ≤ x ∧ x < 2147483587 := by omega
        refine s_set (v := .int ((x * x + (i + 1) * 60607) % 998244353)) (fun K hK => by simp [e1, at1, at3]; exact ⟨.inl ⟨by omega, by omega⟩, .inr ⟨by decide, by decide⟩, hK⟩) ?_
        generalize hy : (x * x + (i + 1) * 60607) % 998244353 = y
        refine x_ret (v := .int ((y * 46819 + x) % 2147483549 / 23 % many)) (fun K hK => by simp; exact ⟨.inr ⟨by decide, by decide⟩, h1, hK⟩) ?_
        show Q _ _
        rw [← hM1]
        exact q _ (i + 1) r (Int.emod_nonneg _ (by omega)) (Int.emod_lt_of_pos _ h1) (by omega)
      · refine s_next ?_
        refine x_ix rfl e1 rfl (v := .int cell) (fun K hK => by simpa using hK) ?_
        refine fin (i + 1) cell _ _ ?_ (by omega)
        rw [← hM1, setM_set]; rfl
    refine s_if (b := decide (i + 1 ≤ (cs.length : Int))) (fun K hK => by simp [e1, at1, at0]; exact hK) (fun h => ?_) (fun _ => s_next (rest _))
    have h' : i + 1 ≤ (cs.length : Int) := by simpa using h
    have hc : atI (cs.map D.int) i = some (.int (cs[i.toNat]'(by omega))) := by
      unfold atI ixN
      rw [if_pos hi, if_pos (by simp; omega)]
      show (cs.map D.int)[i.toNat]? = _
      rw [List.getElem?_map, List.getElem?_eq_getElem (by omega)]; rfl
    refine x_set (v := .int (cs[i.toNat]'(by omega))) (fun K hK => by simp only [dOp, dVar, dC, ixD, subD, List.set, startD, List.map, List.getElem?_cons_zero, e1, at0, at1]; simp [e1, at0, at1, hc]; exact hK) ?_
    exact rest _
  · refine s_next ?_
    refine fin i r none M ?_ hi
    funext x
    unfold setM
    split
    · rename_i h; rw [h, hM]
    · rfl
theorem offs_cases (z : Str) : kv_OFFSETS.lookup z = none ∨ ∃ a b, kv_OFFSETS.lookup z = some (.tup [.int a, .int b]) := by
  simp only [kv_OFFSETS, List.lookup]
  repeat' split
  all_goals first | exact .inl rfl | exact .inr ⟨_, _, rfl⟩
theorem pyL_map : ∀ xs : List D, pyL xs = xs.map py
  | [] => rfl
  | x :: xs => by rw [pyL, pyL_map xs]; rfl
theorem pure_moved_cell : ∀ ds M Q E, sp_moved_cell ds M Q E → ds.length = (["cell", "direction"] : List Str).length ∧ t_moved_cell E { nx := fun _ M' => Q .non M', rt := Q } (startD ["cell", "direction", "down", "right"] ds) M := by
  rintro ds M Q E ⟨r, c, d, rfl, hty, q1, q2⟩
  refine ⟨rfl, ?_⟩
  cases d <;> first | (cases (show false = true from hty); done) | skip
  all_goals simp [t_moved_cell, inst, tyN, isA, tyNames]
  all_goals first | exact q2 rfl | skip
  case str z =>
    rcases offs_cases z with e | ⟨a, b, e⟩
    · have : moved r c (.str z) = none := by simp [moved, offs, e]
      simpa [e, mkF, fl_InvalidMirror] using q2 this
    · have : moved r c (.str z) = some (.tup [.int (r + a), .int (c + b)]) := by simp [moved, offs, e]
      simpa [e, atI, ixN] using q1 _ this
theorem pure__law_pick : ∀ ds M Q E, sp__law_pick ds M Q E → ds.length = (["_law_bag_here", "_law_some"] : List Str).length ∧ t__law_pick { nx := fun _ M' => Q .non M', rt := Q } (startD ["_law_bag_here", "_law_some"] ds) M := by
  rintro ds M Q E (⟨b, r, xs, rfl, hb, ⟨h1, h2⟩, q⟩ | ⟨b, xs, rfl, hb, ⟨h1, h2⟩, q⟩ | ⟨b, z, rfl, hb, ⟨h1, h2⟩, q⟩)
  · refine ⟨rfl, ?_⟩
    simp [t__law_pick]
    refine ⟨b, xs.length, rfl, hb, ⟨by omega, by omega⟩, fun n h3 h4 => ?_⟩
    obtain ⟨x, e, hx⟩ := atI_some h3 h4
    simp only [e]; exact q x hx
  · refine ⟨rfl, ?_⟩
    simp [t__law_pick]
    refine ⟨b, xs.length, rfl, hb, ⟨by omega, by omega⟩, fun n h3 h4 => ?_⟩
    obtain ⟨x, e, hx⟩ := atI_some h3 h4
    simp only [e]; exact q x hx
  · refine ⟨rfl, ?_⟩
    simp [t__law_pick]
    refine ⟨by omega, b, z.length, rfl, hb, ⟨by omega, by omega⟩, fun n h3 h4 => ⟨by omega, ?_⟩⟩
    obtain ⟨x, e, hx⟩ := atI_some (xs := z.cps.toList) h3 (by simpa [Str.length] using h4)
    simp only [e]; exact q x hx
theorem pure__law_same (n : Nat) : ∀ ds M Q E, spSame n ds M Q E → ds.length = (["_law_found", "_law_due"] : List Str).length ∧ t__law_same (spPrev n) { nx := fun _ M' => Q .non M', rt := Q } (startD ["_law_found", "_law_due", "_law_one", "_law_two"] ds) M := by
  rintro ds M Q E ⟨x, y, rfl, hx, hy, q⟩
  refine ⟨rfl, ?_⟩
  cases x <;> cases y <;> first
    | (exfalso; cases n <;> exact Bool.noConfusion (show false = true from hx))
    | (exfalso; cases n <;> exact Bool.noConfusion (show false = true from hy))
    | skip
  all_goals simp [t__law_same, inst, tyN, isA, tyNames, tysOf, DL.isNon]
  all_goals first
    | exact q _ (by simp [py])
    | (refine q _ ?_; rw [beq_iff_eq]; exact ⟨fun h => by rw [h], fun h => by simpa [py] using h⟩)
    | skip
  case lst.lst r1 xs r2 ys =>
    cases n with
    | zero => cases (show false = true from hx)
    | succ n =>
      obtain ⟨h1, h2⟩ := gd_lst hx
      obtain ⟨h3, h4⟩ := gd_lst hy
      split
      · rename_i hl
        have hl' : xs.length = ys.length := by omega
        refine compi_rel (P := fun z d => ∀ x y, z = .tup [x, y] → ∃ k : Bool, d = .bl k ∧ (k = true ↔ py x = py y)) _ _ _ (fun z hz Q hQ => ?_) (by simp [zipD]; omega) (fun ds hp => ?_)
        · unfold zipD at hz
          obtain ⟨p, hp, rfl⟩ := List.mem_map.mp hz
          obtain ⟨m1, m2⟩ := List.of_mem_zip hp
          simp [wipeD]
          exact ⟨_, _, rfl, h2 _ m1, h4 _ m2, fun k hk => hQ _ fun x y e => by
            injection e with e; injection e with e1 e2; injection e2 with e2 _
            exact ⟨k, rfl, by rw [hk, e1, e2]⟩⟩
        · obtain ⟨bs, rfl, hb⟩ := same_all hl' hp
          exact ⟨bs, by simp, q _ (by rw [hb]; simp [py, pyL_map])⟩
      · rename_i hl
        refine q _ ?_
        simp [py, pyL_map]
        intro e
        exact hl (by have := congrArg List.length e; simp at this; omega)
  case tup.tup xs ys =>
    cases n with
    | zero => cases (show false = true from hx)
    | succ n =>
      obtain ⟨h1, h2⟩ := gd_tup hx
      obtain ⟨h3, h4⟩ := gd_tup hy
      split
      · rename_i hl
        have hl' : xs.length = ys.length := by omega
        refine compi_rel (P := fun z d => ∀ x y, z = .tup [x, y] → ∃ k : Bool, d = .bl k ∧ (k = true ↔ py x = py y)) _ _ _ (fun z hz Q hQ => ?_) (by simp [zipD]; omega) (fun ds hp => ?_)
        · unfold zipD at hz
          obtain ⟨p, hp, rfl⟩ := List.mem_map.mp hz
          obtain ⟨m1, m2⟩ := List.of_mem_zip hp
          simp [wipeD]
          exact ⟨_, _, rfl, h2 _ m1, h4 _ m2, fun k hk => hQ _ fun x y e => by
            injection e with e; injection e with e1 e2; injection e2 with e2 _
            exact ⟨k, rfl, by rw [hk, e1, e2]⟩⟩
        · obtain ⟨bs, rfl, hb⟩ := same_all hl' hp
          exact ⟨bs, by simp, q _ (by rw [hb]; simp [py, pyL_map])⟩
      · rename_i hl
        refine q _ ?_
        simp [py, pyL_map]
        intro e
        exact hl (by have := congrArg List.length e; simp at this; omega)
theorem pure__law_field (xn : List Str) : ∀ ds M Q, sp__law_field xn ds M Q DX0 → ds.length = (["_law_e"] : List Str).length ∧ t__law_field xn { nx := fun _ M' => Q .non M', rt := Q } (startD ["_law_e"] ds) M := by
  rintro ds M Q ⟨n, fs, code, l, rfl, hn, hc, ok, ha, q⟩
  refine ⟨rfl, ?_⟩
  have hc' : fs.lookup (Str.ofString "code") = some (.str code) := hc
  unfold t__law_field
  have eqc : ∀ (z : Str) (K : Bool → Mu → Prop), K (code == z) M → dB (dOp eqD (dXf xn "code" (dVar 0)) (dC (.str z))) [some (.exc n fs)] M K := by
    intro z K hK
    simp [hn, hc']; exact hK
  have inc : ∀ (zs : List Str) (K : DK), K (.bl (decide (code ∈ zs))) M → inD (.str code) (.tup (zs.map D.str)) M K := by
    intro zs K hK
    refine ⟨⟨rfl, by simp [flatD]⟩, ?_⟩
    have e : inB (.str code) (zs.map D.str) = decide (code ∈ zs) := by
      simp only [inB, List.any_map]
      rw [Bool.eq_iff_iff]
      simp
    rw [e]; exact hK
  have xf : ∀ (f : Str) (d : D) (K : DK), fs.lookup f = some d → K d M → dXf xn f (dVar 0) [some (.exc n fs)] M K := by
    intro f d K hf hK
    simp [hn, hf]; exact hK
  unfold attrs at ha
  refine s_if (b := code == "InvalidChart") (fun K hK => eqc _ K hK) (fun h => ?_) (fun h => s_next ?_)
  · rw [if_pos (by simpa using h)] at ha
    split at ha
    · rename_i a b h1 h2
      cases ha
      have h1' : fs.lookup (Str.ofString "row") = some a := h1
      have h2' : fs.lookup (Str.ofString "column") = some b := h2
      exact x_ret (v := .tup [a, b]) (fun K hK => by simp [hn, h1', h2']; exact hK) q
    · cases ha
  rw [if_neg (by simpa using h)] at ha
  refine s_if (b := code == "InvalidText") (fun K hK => eqc _ K hK) (fun h => ?_) (fun h => s_next ?_)
  · rw [if_pos (by simpa using h)] at ha
    split at ha
    · rename_i a b h1 h2
      cases ha
      have h1' : fs.lookup (Str.ofString "line") = some a := h1
      have h2' : fs.lookup (Str.ofString "why") = some b := h2
      exact x_ret (v := .tup [a, b]) (fun K hK => by simp [hn, h1', h2']; exact hK) q
    · cases ha
  rw [if_neg (by simpa using h)] at ha
  refine s_if (b := decide (code ∈ (["InvalidWind", "InvalidRegion", "InvalidPath", "InvalidSquall"] : List Str))) (fun K hK => xf "code" _ _ hc ⟨by simp, inc ["InvalidWind", "InvalidRegion", "InvalidPath", "InvalidSquall"] _ hK⟩) (fun h => ?_) (fun h => s_next ?_)
  · rw [if_pos (by simpa using h)] at ha
    split at ha
    · rename_i a h1
      cases ha
      refine xf "at" a _ h1 ?_
      exact ⟨by simp, q⟩
    · cases ha
  rw [if_neg (by simpa using h)] at ha
  refine s_if (b := code == "TooMany") (fun K hK => eqc _ K hK) (fun h => ?_) (fun h => s_next ?_)
  · rw [if_pos (by simpa using h)] at ha
    split at ha
    · rename_i a h1
      cases ha
      refine xf "most" a _ h1 ?_
      exact ⟨by simp, q⟩
    · cases ha
  rw [if_neg (by simpa using h)] at ha
  refine xf "code" _ _ hc ⟨by simp, inc ["InvalidHeights", "OtherChart", "Ended"] _ ?_⟩
  show if decide _ = true then _ else _
  split
  · rename_i h
    rw [if_pos (by simpa using h)] at ha
    cases ha
    exact ⟨by simp, q⟩
  · rename_i h
    rw [if_neg (by simpa using h)] at ha
    split at ha
    · rename_i a h1
      cases ha
      refine xf "value" a _ h1 ?_
      exact ⟨by simp, q⟩
    · cases ha
theorem pure__law_try (xn : List Str) : ∀ f tl M Q, TT__law_try xn tl M Q → t__law_try xn f tl { nx := fun _ M' => Q .non M', rt := Q } (startD ["_law_ask", "_law_e"] [.ref f]) M := by
  intro f tl M Q h
  unfold t__law_try
  refine ⟨rfl, h _ _ (fun n fs M' d hn he hq => ⟨hn, ?_⟩) (fun d M' hq => ⟨by simp, hq⟩)⟩
  obtain ⟨code, l, hc, ok, ha, hx, hl, rfl⟩ := he
  have hc' : fs.lookup (Str.ofString "code") = some (.str code) := hc
  simp [hn, hc']
  refine ⟨n, fs, code, l, rfl, hn, hc, ok, ha, ?_⟩
  refine ⟨by simp; omega, rfl, ?_, hq⟩
  simp [noX, noXL, hx]
theorem pure__law_gust : ∀ ds M Q E, sp__law_gust ds M Q E → ds.length = (["_law_bag_here"] : List Str).length ∧ t__law_gust { nx := fun _ M' => Q .non M', rt := Q } (startD ["_law_bag_here", "_law_k"] ds) M := by
  rintro ds M Q E ⟨b, rfl, hb, q⟩
  refine ⟨rfl, ?_⟩
  simp [t__law_gust]
  refine compi_any (P := toll) _ _ _ (fun x hx Q h => ?_) (by simp [rngD]) (fun ds hl hd => ?_)
  · simp [wipeD]
    refine ⟨b, 100, rfl, hb, ⟨by decide, by decide⟩, fun n h0 h1 => ?_⟩
    refine .inl ⟨b, 0, _, rfl, hb, ⟨by simp, by simp⟩, fun x hx => h x ?_⟩
    simp only [List.mem_cons, List.not_mem_nil, or_false] at hx
    rcases hx with rfl | rfl | rfl | rfl | rfl | rfl | rfl | rfl | rfl | rfl | rfl
    · exact .inl rfl
    all_goals exact .inr ⟨_, rfl, by omega, by omega⟩
  · simp
    exact q ds ⟨by rw [hl]; simp [rngD], hd⟩
theorem pure__law_moves : ∀ ds M Q E, sp__law_moves ds M Q E → ds.length = ([] : List Str).length ∧ t__law_moves { nx := fun _ M' => Q .non M', rt := Q } (startD [] ds) M := by
  rintro ds M Q E ⟨rfl, q⟩
  refine ⟨rfl, ?_⟩
  simpa [t__law_moves, movesL, pairD] using q
end HS
/-! Shared: the def that tries each lambda of a list. -/
namespace HS
open PySem L2 DL
def triesR (xn : List Str) : List DAct → List D → Mu → DK → Prop
  | [], acc, M, Q => Q (.lst 0 acc) M
  | tl :: r, acc, M, Q => TT__law_try xn tl M fun d M1 => triesR xn r (acc ++ [d]) M1 Q
def TT__law_tries (xn : List Str) (ls : List DAct) (M : Mu) (Q : DK) : Prop := ls.length ≤ 1000 ∧ triesR xn ls [] M Q
def t__law_tries (xn : List Str) (acts : List (Addr × DAct)) : DS := (dRet (dLc (dIt (dVar 0)) (gNm 1) dYes (dTryA (TT__law_try xn) acts (dVar 1)) [1]))
theorem try_mono {xn : List Str} {tl : DAct} {M : Mu} {Q Q' : DK} (h : TT__law_try xn tl M Q) (k : ∀ d M', Q d M' → Q' d M') : TT__law_try xn tl M Q' := fun E0 Q0 hE hQ => h E0 Q0 (fun n fs M' d hn he q => hE n fs M' d hn he (k d M' q)) (fun d M' q => hQ d M' (k _ M' q))
theorem tries_comp {xn : List Str} {acts : List (Addr × DAct)} {r : Nat} {L : List D} {Q : DK} : ∀ (rest : List (Addr × DAct)) (acc : List D) (M : Mu), (∀ x ∈ rest, x ∈ acts) → acc.length + rest.length ≤ 1000 → triesR xn (rest.map (·.2)) acc M Q →
    compi (gNm 1) dYes (dTryA (TT__law_try xn) acts (dVar 1)) [some (.lst r L), none] (rest.map fun q => .ref q.1) acc M Q
  | [], acc, M, _, _, h => h
  | (f, tl) :: rest, acc, M, hm, hl, h => by
    refine ⟨f, tl, rfl, hm _ List.mem_cons_self, ?_⟩
    refine try_mono h fun d M1 q => ⟨by simp at hl; omega, ?_⟩
    exact tries_comp rest (acc ++ [d]) M1 (fun x hx => hm x (List.mem_cons_of_mem _ hx)) (by simp at hl ⊢; omega) q
theorem pure__law_tries (xn : List Str) : ∀ (acts : List (Addr × DAct)) r M Q, TT__law_tries xn (acts.map (·.2)) M Q → t__law_tries xn acts { nx := fun _ M' => Q .non M', rt := Q } (startD ["_law_asks", "_law_ask"] [.lst r (acts.map fun q => .ref q.1)]) M := by
  intro acts r M Q ⟨hl, h⟩
  exact tries_comp acts [] M (fun _ h => h) (by simpa using hl) h
end HS
/-! Shared by the laws of charts: what each def promises. -/
namespace HS
open PySem L2 DL
def seq : D → Option (List D)
  | .lst _ xs => some xs
  | .tup xs => some xs
  | _ => none
def rowsOf (d : D) (rows : List (List D)) : Prop := ∃ ds, seq d = some ds ∧ ds.map seq = rows.map some
def water (rows : List (List D)) : Bool := rows.any fun r => r.any fun t => !isNon t
structure GdR (rows : List (List D)) : Prop where
  lo : 1 ≤ rows.length
  hi : rows.length ≤ 6
  wd : ∃ k, 1 ≤ k ∧ k ≤ 6 ∧ ∀ r ∈ rows, r.length = k
  tl : ∀ r ∈ rows, ∀ t ∈ r, toll t
  wat : water rows = true
structure Gd (rows winds : List (List D)) (top : Int) : Prop where
  r : GdR rows
  wn : winds.length ≤ 8
  wg : ∀ g ∈ winds, gust g
  t0 : 1 ≤ top
  t1 : top ≤ 99
def rowsD (r : Nat) (rows : List (List D)) : D := .lst r (rows.map (.lst r))
def windsD (r : Nat) (ws : List (List D)) : D := .lst r (ws.map .tup)
def worldD (rows winds : List (List D)) (top : Int) (kvs : List (D × D)) : D := .lst 0 [rowsD 0 rows, windsD 0 winds, .int top, .dct kvs]
def chartF (rows winds : List (List D)) (top : Int) (d : D) : List (Str × D) := [("top", .int top), ("last", .int winds.length), ("held_rows", rowsD 0 rows), ("held_winds", windsD 0 winds), ("drags", d)]
def chartD (rows winds : List (List D)) (top : Int) (kvs : List (D × D)) : D := .obj "Chart" (chartF rows winds top (.dct kvs))
def sp_has_water : DSp := fun ds M Q _ => ∃ R rows, ds = [R] ∧ rowsOf R rows ∧ rows.length ≤ 8 ∧ (∀ r ∈ rows, r.length ≤ 8) ∧ Q (.bl (water rows)) M
def sp__law_drag : DSp := fun ds M Q _ => ∃ b, ds = [.ref b] ∧ M b = some .bag ∧ ∀ t, toll t → Q t M
def sp__law_roof : DSp := fun ds M Q _ => ∃ b, ds = [.ref b] ∧ M b = some .bag ∧ ∀ i : Int, 1 ≤ i → i ≤ 99 → Q (.int i) M
def sp__law_parted : DSp := fun ds M Q _ => ∃ rows W T, ds = [rowsD 0 rows, W, T] ∧ plainN 5 W = true ∧ plainN 5 T = true ∧ rows.length ≤ 6 ∧ (∀ r ∈ rows, r.length ≤ 6) ∧ (∀ r ∈ rows, ∀ t ∈ r, toll t) ∧ ∀ kvs, Q (.lst 0 [rowsD 0 rows, W, T, .dct kvs]) M
def sp__law_world : DSp := fun ds M Q _ => ∃ b most late, ds = [.ref b, .int most, .int late] ∧ M b = some .bag ∧ 1 ≤ most ∧ most ≤ 6 ∧ 0 ≤ late ∧ late ≤ 8 ∧ ∀ rows winds top kvs, Gd rows winds top → Q (worldD rows winds top kvs) M
def sp__law_sized : DSp := fun ds M Q _ => ∃ b, ds = [.ref b] ∧ M b = some .bag ∧ ∀ rows winds top kvs, Gd rows winds top → Q (worldD rows winds top kvs) M
def sp_Chart_rows : DSp := fun ds M Q _ => ∃ rows winds top kvs, ds = [chartD rows winds top kvs] ∧ Gd rows winds top ∧ Q (rowsD 0 rows) M
def sp_Chart_winds : DSp := fun ds M Q _ => ∃ rows winds top kvs, ds = [chartD rows winds top kvs] ∧ Gd rows winds top ∧ Q (windsD 0 winds) M
end HS
/-! Shared by the laws of charts: readings. Printed by a program of mine. -/
namespace HS
open PySem L2 DL
def t_has_water : DS := (dRet (dCB anyD (dCons (dLc2 (dIt (dVar 0)) (gNm 1) dYes (dIt (dVar 1)) (gNm 2) dYes (dOp notND (dVar 2) (dC .non)) [1, 2] [2]) dNil)))
def t__law_drag : DS := (dRet (dCall sp__law_pick DX0 (dCons (dVar 0) (dCons (dLst (dCons (dC .non) (dCons (dC (.int 0)) (dCons (dC (.int 0)) (dCons (dC (.int 1)) (dCons (dC (.int 1)) (dCons (dC (.int 1)) (dCons (dC (.int 2)) (dCons (dC (.int 2)) (dCons (dC (.int 3)) (dCons (dC (.int 4)) (dCons (dC (.int 99)) (dCons (dCall sp__law_draw DX0 (dCons (dVar 0) (dCons (dC (.int 100)) dNil))) dNil))))))))))))) dNil))))
def t__law_roof : DS := (dRet (dCall sp__law_pick DX0 (dCons (dVar 0) (dCons (dLst (dCons (dC (.int 1)) (dCons (dC (.int 2)) (dCons (dC (.int 3)) (dCons (dC (.int 4)) (dCons (dC (.int 5)) (dCons (dC (.int 6)) (dCons (dC (.int 7)) (dCons (dC (.int 8)) (dCons (dC (.int 9)) (dCons (dC (.int 9)) (dCons (dC (.int 99)) (dCons (dOp addD (dC (.int 1)) (dCall sp__law_draw DX0 (dCons (dVar 0) (dCons (dC (.int 99)) dNil)))) dNil))))))))))))) dNil))))
def t__law_parted_1 : DS := (dIfS (dB (dOp notND (dOp ixE (dOp ixE (dVar 0) (dVar 4)) (dVar 5)) (dC .non))) (dAsg (dOp ixE (dOp ixE (dVar 0) (dVar 4)) (dVar 5)) (gIxP (dVar 3) (dCons (dVar 4) (dCons (dVar 5) dNil)))) dNext)
def t__law_parted_2 : DS := (dFor (dRng1 (dCons (dCB lenD (dCons (dOp ixE (dVar 0) (dVar 4)) dNil)) dNil)) (gNm 5) t__law_parted_1)
def t__law_parted_3 : DS := (dRet (dLst (dCons (dVar 0) (dCons (dVar 1) (dCons (dVar 2) (dCons (dVar 3) dNil))))))
def t__law_parted_4 : DS := (dSeq (dFor (dRng1 (dCons (dCB lenD (dCons (dVar 0) dNil)) dNil)) (gNm 4) t__law_parted_2) t__law_parted_3)
def t__law_parted : DS := (dSeq (dAsg dDictT (gNm 3)) t__law_parted_4)
def t__law_world_1 : DS := (dAsg (dCall sp__law_draw DX0 (dCons (dVar 0) (dCons (dC (.int 4)) dNil))) (gIx (dOp ixE (dVar 5) (dC (.int 0))) (dVar 10)))
def t__law_world_2 : DS := (dSeq (dAsg (dCall sp__law_draw DX0 (dCons (dVar 0) (dCons (dVar 4) dNil))) (gNm 10)) t__law_world_1)
def t__law_world_3 : DS := (dRet (dCall sp__law_parted DX0 (dCons (dFz (dVar 5)) (dCons (dLc (dRng1 (dCons (dCall sp__law_draw DX0 (dCons (dVar 0) (dCons (dOp addD (dVar 2) (dC (.int 1))) dNil))) dNil)) (gNm 6) dYes (dCall sp__law_gust DX0 (dCons (dVar 0) dNil)) [6]) (dCons (dCall sp__law_roof DX0 (dCons (dVar 0) dNil)) dNil)))))
def t__law_world_4 : DS := (dSeq (dIfS (dNot (dB (dLd (dCB anyD (dCons (dLc (dIt (dVar 5)) (gNm 9) dYes (dCB anyD (dCons (dLc (dIt (dVar 9)) (gNm 8) dYes (dOp notND (dVar 8) (dC .non)) [8]) dNil)) [9]) dNil))))) t__law_world_2 dNext) t__law_world_3)
def t__law_world_5 : DS := (dSeq (dAsg (dLcO (dRng1 (dCons (dVar 3) dNil)) (gNm 7) dYes (dLcO (dRng1 (dCons (dVar 4) dNil)) (gNm 6) dYes (dCall sp__law_drag DX0 (dCons (dVar 0) dNil)) [6]) [7]) (gNm 5)) t__law_world_4)
def t__law_world : DS := (dSeq (dAsg (dTup (dCons (dOp addD (dC (.int 1)) (dCall sp__law_draw DX0 (dCons (dVar 0) (dCons (dVar 1) dNil)))) (dCons (dOp addD (dC (.int 1)) (dCall sp__law_draw DX0 (dCons (dVar 0) (dCons (dVar 1) dNil)))) dNil))) (gTp (gsCons (gNm 3) (gsCons (gNm 4) gsNil)) 2)) t__law_world_5)
def t_Chart_rows : DS := (dRet (dLc (dIt (dFld "Chart" "held_rows" (dVar 0))) (gNm 1) dYes (dCB lstD (dCons (dVar 1) dNil)) [1]))
def t_Chart_winds : DS := (dRet (dCB lstD (dCons (dFld "Chart" "held_winds" (dVar 0)) dNil)))
end HS
/-! Shared by the laws of charts: the defs keep their promises, over data. -/
namespace HS
open PySem L2 DL
theorem seq_len {d : D} {xs : List D} (h : seq d = some xs) : (∃ r, d = .lst r xs) ∨ d = .tup xs := by
  cases d <;> first | (cases h; done) | skip
  · cases h; exact .inl ⟨_, rfl⟩
  · cases h; exact .inr rfl
theorem Gd.row_len {rows winds : List (List D)} {top : Int} (g : Gd rows winds top) {r : List D} (h : r ∈ rows) : 1 ≤ r.length ∧ r.length ≤ 6 := by
  obtain ⟨k, h1, h2, h3⟩ := g.r.wd
  rw [h3 r h]; exact ⟨h1, h2⟩
theorem pure__law_drag : ∀ ds M Q E, sp__law_drag ds M Q E → ds.length = (["_law_bag_here"] : List Str).length ∧ t__law_drag { nx := fun _ M' => Q .non M', rt := Q } (startD ["_law_bag_here"] ds) M := by
  rintro ds M Q E ⟨b, rfl, hb, q⟩
  refine ⟨rfl, ?_⟩
  simp [t__law_drag, sp__law_draw, sp__law_pick]
  refine draw_i hb (by decide) (by decide) fun n h0 h1 => ?_
  refine pick_l hb (by simp) (by simp) fun x hx => q x ?_
  have ti : ∀ i : Int, 0 ≤ i → i ≤ 99 → toll (.int i) := fun i h0 h1 => .inr ⟨i, rfl, h0, h1⟩
  simp at hx
  rcases hx with rfl | rfl | rfl | rfl | rfl | rfl | rfl | rfl
  · exact .inl rfl
  all_goals exact ti _ (by omega) (by omega)
theorem pure__law_roof : ∀ ds M Q E, sp__law_roof ds M Q E → ds.length = (["_law_bag_here"] : List Str).length ∧ t__law_roof { nx := fun _ M' => Q .non M', rt := Q } (startD ["_law_bag_here"] ds) M := by
  rintro ds M Q E ⟨b, rfl, hb, q⟩
  refine ⟨rfl, ?_⟩
  simp [t__law_roof, sp__law_draw, sp__law_pick]
  refine draw_i hb (by decide) (by decide) fun n h0 h1 => ?_
  refine pick_l hb (by simp) (by simp) fun x hx => ?_
  simp at hx
  rcases hx with rfl | rfl | rfl | rfl | rfl | rfl | rfl | rfl | rfl | rfl | rfl
  all_goals exact q _ (by omega) (by omega)
theorem chart_ins {rows winds : List (List D)} {top : Int} {kvs : List (D × D)} {M : Mu} : insF "Chart" (chartD rows winds top kvs) M = some (chartF rows winds top (.dct kvs)) := by simp [insF, chartD]
theorem fld_top {rows winds : List (List D)} {top : Int} {d : D} : (chartF rows winds top d).lookup ("top" : Str) = some (.int top) := rfl
theorem fld_rows {rows winds : List (List D)} {top : Int} {d : D} : (chartF rows winds top d).lookup ("held_rows" : Str) = some (rowsD 0 rows) := rfl
theorem fld_winds {rows winds : List (List D)} {top : Int} {d : D} : (chartF rows winds top d).lookup ("held_winds" : Str) = some (windsD 0 winds) := rfl
theorem no_text {rows winds : List (List D)} {top : Int} {d : D} : (chartF rows winds top d).lookup ("text" : Str) = none := rfl
theorem no_rows {rows winds : List (List D)} {top : Int} {d : D} : (chartF rows winds top d).lookup ("rows" : Str) = none := rfl
theorem no_winds {rows winds : List (List D)} {top : Int} {d : D} : (chartF rows winds top d).lookup ("winds" : Str) = none := rfl
theorem rowsOf_D {r : Nat} {rows : List (List D)} : rowsOf (rowsD r rows) rows := ⟨_, rfl, by simp [seq, Function.comp_def]⟩
theorem rowsOf_W {r : Nat} {ws : List (List D)} : rowsOf (windsD r ws) ws := ⟨_, rfl, by simp [seq, Function.comp_def]⟩
theorem pure_Chart_rows : ∀ ds M Q E, sp_Chart_rows ds M Q E → ds.length = (["self"] : List Str).length ∧ t_Chart_rows { nx := fun _ M' => Q .non M', rt := Q } (startD ["self", "row"] ds) M := by
  rintro ds M Q E ⟨rows, winds, top, kvs, rfl, g, q⟩
  refine ⟨rfl, ?_⟩
  simp [t_Chart_rows, chart_ins, fld_rows]
  simp only [rowsD]
  refine compi_map (f := id) _ _ _ (fun x hx Q' h' => ?_) (by simp; have := g.r.hi; omega) (by simpa [rowsD] using q)
  obtain ⟨r, hr, rfl⟩ := List.mem_map.mp hx
  exact h'
theorem pure_Chart_winds : ∀ ds M Q E, sp_Chart_winds ds M Q E → ds.length = (["self"] : List Str).length ∧ t_Chart_winds { nx := fun _ M' => Q .non M', rt := Q } (startD ["self"] ds) M := by
  rintro ds M Q E ⟨rows, winds, top, kvs, rfl, g, q⟩
  refine ⟨rfl, ?_⟩
  simp [t_Chart_winds, chart_ins, fld_winds]
  exact q
theorem wat_in {R d : D} {M : Mu} : ∀ (xs acc : List D) (Q : List D → Mu → Prop), acc.length + xs.length ≤ 100000 → Q (acc ++ xs.map fun t => .bl (!DL.isNon t)) M → compi2i (gNm 2) dYes (dOp notND (dVar 2) (dC .non)) [some R, some d, none] [2] xs acc M Q
  | [], acc, Q, _, q => by simpa [compi2i] using q
  | x :: xs, acc, Q, hl, q => by
    have := wat_in (R := R) (d := d) (M := M) xs (acc ++ [.bl (!DL.isNon x)]) Q (by simp at hl ⊢; omega) (by simpa using q)
    simp only [List.length_cons] at hl
    simp [compi2i, wipeD]
    exact ⟨by omega, this⟩
theorem wat_all {R : D} {M : Mu} : ∀ (dr : List D) (rows : List (List D)) (acc : List D) (Q : DK), dr.map seq = rows.map some → (∀ r ∈ rows, r.length ≤ 8) → acc.length + rows.length * 8 ≤ 100000 → Q (.lst 0 (acc ++ rows.flatten.map fun t => .bl (!DL.isNon t))) M →
    compi2 (gNm 1) dYes (dIt (dVar 1)) (gNm 2) dYes (dOp notND (dVar 2) (dC .non)) [some R, none, none] [2] dr acc M Q
  | [], rows, acc, Q, h, _, _, q => by
    cases rows with
    | nil => simpa [compi2] using q
    | cons r rows => cases h
  | d :: dr, [], acc, Q, h, _, _, _ => by cases h
  | d :: dr, r :: rows, acc, Q, h, hr, hl, q => by
    simp only [List.map_cons, List.cons.injEq] at h
    have h8 := hr r List.mem_cons_self
    simp only [List.length_cons] at hl
    have ih := wat_all (R := R) (M := M) dr rows (acc ++ r.map fun t => .bl (!DL.isNon t)) Q h.2 (fun x hx => hr x (List.mem_cons_of_mem _ hx)) (by simp; omega) (by simpa using q)
    have hh := wat_in (R := R) (d := d) (M := M) r acc (fun acc' M' => compi2 (gNm 1) dYes (dIt (dVar 1)) (gNm 2) dYes (dOp notND (dVar 2) (dC .non)) [some R, none, none] [2] dr acc' M' Q) (by omega) ih
    rcases seq_len h.1 with ⟨t, rfl⟩ | rfl
    · exact hh
    · exact hh
theorem water_any (rows : List (List D)) : (rows.flatten.map fun t => !DL.isNon t).any id = water rows := by
  induction rows with
  | nil => rfl
  | cons r rows ih =>
    simp only [List.flatten_cons, List.map_append, List.any_append, ih, water, List.any_cons]
    congr 1
    simp
theorem pure_has_water : ∀ ds M Q E, sp_has_water ds M Q E → ds.length = (["rows"] : List Str).length ∧ t_has_water { nx := fun _ M' => Q .non M', rt := Q } (startD ["rows", "row", "drag"] ds) M := by
  rintro ds M Q E ⟨R, rows, rfl, ⟨dr, h1, h2⟩, h3, h4, q⟩
  refine ⟨rfl, ?_⟩
  have key := wat_all (R := R) (M := M) dr rows [] (fun d M' => anyD [d] M' Q) h2 h4 (by simp; omega) ⟨rows.flatten.map fun t => !DL.isNon t, by rw [List.nil_append, List.map_map]; rfl, by rw [water_any]; exact q⟩
  rcases seq_len h1 with ⟨t, rfl⟩ | rfl
  · exact key
  · exact key
theorem putT_len (kvs : List (List Key × D)) (k : List Key) (d : D) : (putT kvs k d).length ≤ kvs.length + 1 := by
  unfold putT; split <;> simp
theorem putT_pl {kvs : List (List Key × D)} {k : List Key} {d : D} (h : ∀ p ∈ kvs, toll p.2) (hd : toll d) : ∀ p ∈ putT kvs k d, toll p.2 := by
  intro p hp
  unfold putT at hp
  split at hp
  · obtain ⟨q, hq, rfl⟩ := List.mem_map.mp hp
    split
    · exact hd
    · exact h q hq
  · simp only [List.mem_append, List.mem_singleton] at hp
    rcases hp with hp | rfl
    · exact h p hp
    · exact hd
structure Lay (M M' : Mu) (a b : Addr) (fs : List (Str × D)) (n : Nat) : Prop where
  ia : M' a = some (.ins "Chart" fs)
  ib : ∃ kvs, M' b = some (.dT kvs) ∧ kvs.length ≤ n ∧ ∀ p ∈ kvs, toll p.2
  io : ∀ x, x ≠ a → x ≠ b → M' x = M x
theorem Lay.put {M M' : Mu} {a b : Addr} {fs : List (Str × D)} {n : Nat} {kvs : List (List Key × D)} {k : List Key} {d : D} (h : Lay M M' a b fs n) (hab : a ≠ b) (e : M' b = some (.dT kvs)) (hd : toll d) : Lay M (setM M' b (.dT (putT kvs k d))) a b fs (n + 1) := by
  obtain ⟨kvs', e', hl, hp⟩ := h.ib
  rw [e] at e'; cases e'
  refine ⟨by rw [setM_ne hab]; exact h.ia, ⟨_, setM_same, ?_, putT_pl hp hd⟩, fun x hx hy => by rw [setM_ne hy]; exact h.io x hx hy⟩
  have := putT_len kvs k d
  omega
theorem Lay.mono {M M' : Mu} {a b : Addr} {fs : List (Str × D)} {n m : Nat} (h : Lay M M' a b fs n) (hn : n ≤ m) : Lay M M' a b fs m := by
  obtain ⟨kvs, e, hl, hp⟩ := h.ib
  exact ⟨h.ia, ⟨kvs, e, by omega, hp⟩, h.io⟩
theorem p1 {t : D} : putD "top" t [] = ([("top", t)] : List (Str × D)) := rfl
theorem p2 {t d : D} : putD "last" d [("top", t)] = ([("top", t), ("last", d)] : List (Str × D)) := rfl
theorem p3 {t d e : D} : putD "held_rows" e [("top", t), ("last", d)] = ([("top", t), ("last", d), ("held_rows", e)] : List (Str × D)) := rfl
theorem p4 {t d e f : D} : putD "held_winds" f [("top", t), ("last", d), ("held_rows", e)] = ([("top", t), ("last", d), ("held_rows", e), ("held_winds", f)] : List (Str × D)) := rfl
theorem p5 {t d e f g : D} : putD "drags" g [("top", t), ("last", d), ("held_rows", e), ("held_winds", f)] = ([("top", t), ("last", d), ("held_rows", e), ("held_winds", f), ("drags", g)] : List (Str × D)) := rfl
theorem fld_drags {rows winds : List (List D)} {top : Int} {d : D} : (chartF rows winds top d).lookup ("drags" : Str) = some d := rfl
theorem atI_nat {α : Type} {xs : List α} {i : Nat} (h : i < xs.length) : atI xs (i : Int) = some xs[i] := by
  have e : (i : Int) < xs.length := by omega
  simp [atI, ixN, h]
theorem rng_mem {n : Nat} {d : D} (h : d ∈ rngD 0 n) : ∃ i : Nat, i < n ∧ d = .int i := by
  simp only [rngD, List.mem_map, List.mem_range] at h
  obtain ⟨i, hi, rfl⟩ := h
  exact ⟨i, hi, by simp⟩
theorem rng_len {lo : Int} {n : Nat} : (rngD lo n).length = n := by simp [rngD]
theorem rows_plain {r : Nat} {rows : List (List D)} (h : ∀ r ∈ rows, ∀ t ∈ r, toll t) : plainN 5 (rowsD r rows) = true := by
  simp only [rowsD, plainN, List.all_eq_true, List.mem_map]
  rintro _ ⟨x, hx, rfl⟩
  simp only [plainN, List.all_eq_true]
  intro t ht
  rcases h x hx t ht with rfl | ⟨i, rfl, _⟩ <;> rfl
theorem winds_plain {r : Nat} {rows : List (List D)} (h : ∀ r ∈ rows, ∀ t ∈ r, toll t) : plainN 5 (windsD r rows) = true := by
  simp only [windsD, plainN, List.all_eq_true, List.mem_map]
  rintro _ ⟨x, hx, rfl⟩
  simp only [plainN, List.all_eq_true]
  intro t ht
  rcases h x hx t ht with rfl | ⟨i, rfl, _⟩ <;> rfl
theorem pure__law_parted : ∀ ds M Q E, sp__law_parted ds M Q E → ds.length = (["_law_ground", "_law_gusts", "_law_roof_here"] : List Str).length ∧ t__law_parted { nx := fun _ M' => fzK Q .non M', rt := fzK Q } (startD ["_law_ground", "_law_gusts", "_law_roof_here", "_law_water", "_law_m", "_law_k"] ds) M := by
  rintro ds M Q E ⟨rows, W, T, rfl, hW, hT, h6, hr6, ht, q⟩
  refine ⟨rfl, ?_⟩
  simp only [t__law_parted, dSeq, dAsg, dDictT]
  intro a ha
  simp only [t__law_parted_4, dSeq, dFor, dRng1, dCB, dCons, dNil, dVar, gNm, lenD, rowsD]
  simp
  refine ⟨by omega, ?_⟩
  refine fori_left (P := fun l ρ M' => (∀ x ∈ l, ∃ i : Nat, i < rows.length ∧ x = .int i) ∧ l.length ≤ 6 ∧ (∃ kvs, M' = setM M a (.dT kvs) ∧ kvs.length ≤ 36 - l.length * 6) ∧ ∃ o4 o5, ρ = [some (rowsD 0 rows), some W, some T, some (.ref a), o4, o5]) ?_ ⟨fun x hx => rng_mem hx, by rw [rng_len]; exact h6, ⟨[], rfl, by simp⟩, none, none, rfl⟩ ?_
  · rintro x l _ _ ⟨hf, hl, ⟨kvs, rfl, hk⟩, o4, o5, rfl⟩ nx hnx
    obtain ⟨i, hi, rfl⟩ := hf x List.mem_cons_self
    simp only [List.length_cons] at hl hk
    have hri : rows[i] ∈ rows := List.getElem_mem hi
    have hr := hr6 rows[i] hri
    have e1 : atI (rows.map (D.lst 0)) (i : Int) = some (.lst 0 rows[i]) := by rw [atI_nat (by simpa using hi)]; simp
    simp only [gNm, t__law_parted_2, dFor, dRng1, dCB, dCons, dNil, dVar, dOp, List.set_cons_succ, List.set_cons_zero]
    simp only [List.getElem?_cons_succ, List.getElem?_cons_zero, rowsD]
    simp [dctT, e1]
    refine ⟨by omega, ?_⟩
    refine fori_left (P := fun m ρ M' => (∀ x ∈ m, ∃ j : Nat, j < rows[i].length ∧ x = .int j) ∧ m.length ≤ 6 ∧ (∃ kvs, M' = setM M a (.dT kvs) ∧ kvs.length ≤ 36 - l.length * 6 - m.length) ∧ ∃ o5, ρ = [some (rowsD 0 rows), some W, some T, some (.ref a), some (.int i), o5]) ?_ ⟨fun x hx => rng_mem hx, by rw [rng_len]; exact hr, ⟨kvs, rfl, by rw [rng_len]; omega⟩, o5, rfl⟩ ?_
    · rintro x m _ _ ⟨hf2, hl2, ⟨kvs2, rfl, hk2⟩, o5, rfl⟩ nx2 hnx2
      obtain ⟨j, hj, rfl⟩ := hf2 x List.mem_cons_self
      simp only [List.length_cons] at hl2 hk2
      have e2 : atI rows[i] (j : Int) = some rows[i][j] := atI_nat hj
      have htt := ht rows[i] hri rows[i][j] (List.getElem_mem hj)
      simp [t__law_parted_1, rowsD, dctT, e1, e2]
      split
      · refine hnx2 _ _ ⟨fun y hy => hf2 y (List.mem_cons_of_mem _ hy), by omega, ⟨kvs2, rfl, by omega⟩, _, rfl⟩
      · simp [toKeys, toKey, setM_same, setM_set]
        refine ⟨by omega, hnx2 _ _ ⟨fun y hy => hf2 y (List.mem_cons_of_mem _ hy), by omega, ⟨_, rfl, ?_⟩, _, rfl⟩⟩
        have := putT_len kvs2 [.inl (i : Int), .inl (j : Int)] rows[i][j]
        omega
    · rintro _ _ ⟨_, _, ⟨kvs2, rfl, hk2⟩, o5, rfl⟩
      exact hnx _ _ ⟨fun y hy => hf y (List.mem_cons_of_mem _ hy), by omega, ⟨kvs2, rfl, by simp at hk2; omega⟩, _, _, rfl⟩
  · rintro _ _ ⟨_, _, ⟨kvs, rfl, hk⟩, o4, o5, rfl⟩
    simp only [t__law_parted_3, dRet, dLst, dCons, dVar, dNil]
    simp only [List.getElem?_cons_succ, List.getElem?_cons_zero]
    refine ⟨by simp, ?_⟩
    refine fz_new (M0 := M) ((Ex.refl M).set ha) ?_
    rw [rs_lst]
    simp only [List.map_cons, List.map_nil]
    rw [rs_plain (rows_plain ht), rs_plain hW, rs_plain hT, rs_dTO (n := 7) ha setM_same]
    exact q _
structure Own (M M' : Mu) (refs : List Addr) (rows : List (List D)) : Prop where
  ln : refs.length = rows.length
  it : ∀ (i : Nat) (a : Addr) (xs : List D), refs[i]? = some a → rows[i]? = some xs → M' a = some (.lst xs)
  fn : ∀ a ∈ refs, M a = none
  nd : refs.Nodup
  ot : ∀ x, x ∉ refs → M' x = M x
theorem Own.nil {M : Mu} : Own M M [] [] := ⟨rfl, fun i a xs h => by simp at h, by simp, List.nodup_nil, fun _ _ => rfl⟩
theorem Own.snoc {M M' : Mu} {refs : List Addr} {rows : List (List D)} {a : Addr} {xs : List D} (h : Own M M' refs rows) (ha : M' a = none) : Own M (setM M' a (.lst xs)) (refs ++ [a]) (rows ++ [xs]) := by
  have hn : a ∉ refs := fun z => by
    obtain ⟨i, hi⟩ := List.mem_iff_getElem?.mp z
    have hl : i < rows.length := by rw [← h.ln]; exact (List.getElem?_eq_some_iff.mp hi).1
    rw [h.it i a rows[i] hi (List.getElem?_eq_getElem hl)] at ha; cases ha
  refine ⟨by simp [h.ln], fun i b ys e1 e2 => ?_, fun b hb => ?_, ?_, fun x hx => ?_⟩
  · by_cases hi : i < refs.length
    · rw [List.getElem?_append_left hi] at e1
      rw [List.getElem?_append_left (by rw [← h.ln]; exact hi)] at e2
      have hb : b ∈ refs := List.mem_of_getElem? e1
      rw [setM_ne (show b ≠ a from fun z => by subst z; exact hn hb)]
      exact h.it i b ys e1 e2
    · rw [List.getElem?_append_right (by omega)] at e1
      rw [List.getElem?_append_right (by rw [← h.ln]; omega)] at e2
      have h0 : i - refs.length = 0 := by
        have := (List.getElem?_eq_some_iff.mp e1).1
        simp at this; omega
      rw [h0] at e1
      rw [← h.ln, h0] at e2
      simp at e1 e2
      subst e1 e2
      exact setM_same
  · simp at hb
    rcases hb with hb | rfl
    · exact h.fn b hb
    · rw [h.ot b hn] at ha; exact ha
  · rw [List.nodup_append]
    exact ⟨h.nd, by simp, fun x hx y hy => by simp at hy; subst hy; intro z; subst z; exact hn hx⟩
  · simp at hx
    rw [setM_ne hx.2]
    exact h.ot x hx.1
theorem Own.mem {M M' : Mu} {refs : List Addr} {rows : List (List D)} (h : Own M M' refs rows) {a : Addr} (ha : a ∈ refs) : ∃ xs ∈ rows, M' a = some (.lst xs) := by
  obtain ⟨i, hi⟩ := List.mem_iff_getElem?.mp ha
  have hl : i < rows.length := by rw [← h.ln]; exact (List.getElem?_eq_some_iff.mp hi).1
  exact ⟨rows[i], List.getElem_mem hl, h.it i a rows[i] hi (List.getElem?_eq_getElem hl)⟩
theorem Own.map {α : Type} {M M' : Mu} {refs : List Addr} {rows : List (List D)} (h : Own M M' refs rows) (f : Addr → α) (g : List D → α) (e : ∀ a xs, a ∈ refs → xs ∈ rows → M' a = some (.lst xs) → f a = g xs) : refs.map f = rows.map g := by
  refine List.ext_getElem? fun i => ?_
  rw [List.getElem?_map, List.getElem?_map]
  by_cases hi : i < refs.length
  · have hl : i < rows.length := by rw [← h.ln]; exact hi
    rw [List.getElem?_eq_getElem hi, List.getElem?_eq_getElem hl]
    simp only [Option.map_some]
    rw [e refs[i] rows[i] (List.getElem_mem hi) (List.getElem_mem hl) (h.it i _ _ (List.getElem?_eq_getElem hi) (List.getElem?_eq_getElem hl))]
  · rw [List.getElem?_eq_none (by omega), List.getElem?_eq_none (by rw [← h.ln]; omega)]; rfl
theorem Own.set {M M' : Mu} {refs : List Addr} {rows : List (List D)} (h : Own M M' refs rows) {i : Nat} {a : Addr} {ys : List D} (e : refs[i]? = some a) : Own M (setM M' a (.lst ys)) refs (rows.set i ys) := by
  have hi : i < refs.length := (List.getElem?_eq_some_iff.mp e).1
  refine ⟨by simp [h.ln], fun j b xs e1 e2 => ?_, h.fn, h.nd, fun x hx => ?_⟩
  · by_cases hij : i = j
    · subst hij
      rw [e] at e1; cases e1
      rw [List.getElem?_set_self (by rw [← h.ln]; exact hi)] at e2
      cases e2; exact setM_same
    · rw [List.getElem?_set_ne hij] at e2
      have hj := (List.getElem?_eq_some_iff.mp e1)
      have hne : b ≠ a := fun z => by
        subst z
        have e3 := (List.getElem?_eq_some_iff.mp e).2
        exact hij ((List.getElem_inj h.nd).mp (e3.trans hj.2.symm))
      rw [setM_ne hne]
      exact h.it j b xs e1 e2
  · have : x ≠ a := fun z => by subst z; exact hx (List.mem_of_getElem? e)
    rw [setM_ne this]; exact h.ot x hx
theorem Own.ex {M M' : Mu} {refs : List Addr} {rows : List (List D)} (h : Own M M' refs rows) : Ex M M' := fun a m e => by
  have : a ∉ refs := fun z => by rw [h.fn a z] at e; cases e
  rw [h.ot a this]; exact e
theorem ld_toll {M : Mu} {lent : Addr → Prop} {r n : Nat} {t : D} (h : toll t) : ld M lent r n t = t := by
  rcases h with rfl | ⟨i, rfl, _⟩ <;> cases n <;> rfl
theorem rs_toll {M : Mu} {dead : Addr → Prop} {n : Nat} {t : D} (h : toll t) : rs M dead n t = t := by
  rcases h with rfl | ⟨i, rfl, _⟩ <;> simp
theorem map_same {f : D → D} {xs : List D} (h : ∀ t ∈ xs, f t = t) : xs.map f = xs := (List.map_congr_left h).trans (List.map_id' _)
theorem ld_refs {M M' : Mu} {lent : Addr → Prop} {r n : Nat} {refs : List Addr} {rows : List (List D)} (h : Own M M' refs rows) (ht : ∀ x ∈ rows, ∀ t ∈ x, toll t) (hl : ∀ a ∈ refs, lent a) {M2 : Mu} (hM : ∀ a ∈ refs, M2 a = M' a) : (refs.map D.ref).map (ld M2 lent r (n + 1)) = rows.map (D.lst r) := by
  rw [List.map_map]
  refine h.map _ _ fun a xs ha hx e => ?_
  have e2 : M2 a = some (.lst xs) := by rw [hM a ha]; exact e
  simp only [Function.comp, ld, if_pos (hl a ha), e2]
  rw [map_same fun t htt => ld_toll (ht xs hx t htt)]
theorem rs_refs {M M' : Mu} {dead : Addr → Prop} {n : Nat} {refs : List Addr} {rows : List (List D)} (h : Own M M' refs rows) (ht : ∀ x ∈ rows, ∀ t ∈ x, toll t) (hl : ∀ a ∈ refs, dead a) {M2 : Mu} (hM : ∀ a ∈ refs, M2 a = M' a) : (refs.map D.ref).map (rs M2 dead (n + 1)) = rows.map (D.lst 0) := by
  rw [List.map_map]
  refine h.map _ _ fun a xs ha hx e => ?_
  have e2 : M2 a = some (.lst xs) := by rw [hM a ha]; exact e
  simp only [Function.comp]
  rw [rs_lstO (hl a ha) e2, map_same fun t htt => rs_toll (ht xs hx t htt)]
theorem back_drop {M : Mu} {lent : Addr → Prop} : back (drop M lent) M lent = M := by
  funext a
  unfold back drop
  split <;> simp_all
theorem Own.bag {M M' : Mu} {refs : List Addr} {rows : List (List D)} {b : Addr} {m : MO} (h : Own M M' refs rows) (hb : M b = some m) : M' b = some m := h.ex b m hb
theorem comp_rows {b : Addr} {M0 : Mu} {wide n : Nat} {ρ0 : DEnv} (hb : M0 b = some .bag) (hw : wide ≤ 6) (hn : n ≤ 6) (hρ : ∀ d, (ρ0.set 7 (some d))[4]? = some (some (.int wide)) ∧ ∀ e, ((wipeD (ρ0.set 7 (some d)) [6]).set 6 (some e))[0]? = some (some (.ref b))) (Q : DK)
    (q : ∀ refs rows M g, Own M0 M refs rows → (∀ x ∈ rows, x.length = wide ∧ ∀ t ∈ x, toll t) → rows.length = n → M g = none → Q (.ref g) (setM M g (.lst (refs.map .ref)))) : ∀ (l : List D) (refs : List Addr) (rows : List (List D)) (M : Mu), Own M0 M refs rows → (∀ x ∈ rows, x.length = wide ∧ ∀ t ∈ x, toll t) → rows.length + l.length = n →
    compi (gNm 7) dYes (dLcO (dRng1 (dCons (dVar 4) dNil)) (gNm 6) dYes (dCall sp__law_drag DX0 (dCons (dVar 0) dNil)) [6]) ρ0 l (refs.map D.ref) M (ownK Q)
  | [], refs, rows, M, h, ht, hl => by
    intro g hg
    exact q refs rows M g h ht (by simpa using hl) hg
  | x :: l, refs, rows, M, h, ht, hl => by
    obtain ⟨h4, h0⟩ := hρ x
    simp only [List.length_cons] at hl
    rw [compi]
    simp only [gNm, dYes, if_true, dLcO, dRng1, dCons, dVar, dNil, h4]
    refine ⟨by omega, ?_⟩
    refine compi_any (P := toll) _ _ _ (fun y hy Q' h' => ?_) (by simp [rng_len]; omega) fun ds hd hp => ?_
    · simp only [dCall, dCons, dVar, dNil, gNm]
      rw [h0 y]
      exact ⟨b, rfl, h.bag hb, h'⟩
    · intro a ha
      rw [rng_len] at hd
      have hr := h.ln
      refine ⟨by simp; omega, ?_⟩
      have := comp_rows hb hw hn hρ Q q l (refs ++ [a]) (rows ++ [ds]) (setM M a (.lst ds)) (h.snoc ha) (fun z hz => by
        simp at hz
        rcases hz with hz | rfl
        · exact ht z hz
        · exact ⟨by simpa using hd, hp⟩) (by simp; omega)
      simpa using this
theorem gusts_of : ∀ ds : List D, (∀ d ∈ ds, ∃ ts, gust ts ∧ d = .tup ts) → ∃ winds : List (List D), ds = winds.map .tup ∧ ∀ g ∈ winds, gust g
  | [], _ => ⟨[], rfl, by simp⟩
  | d :: ds, h => by
    obtain ⟨ts, hg, rfl⟩ := h d List.mem_cons_self
    obtain ⟨ws, rfl, hw⟩ := gusts_of ds fun x hx => h x (List.mem_cons_of_mem _ hx)
    exact ⟨ts :: ws, rfl, fun g hx => by simp at hx; rcases hx with rfl | hx; exact hg; exact hw g hx⟩
theorem world_fin {M M2 M3 : Mu} {b g : Addr} {refs : List Addr} {rows : List (List D)} {most late : Int} {x3 x4 x10 : Option D} {Q : DK} (hb : M b = some .bag) (l0 : 0 ≤ late) (l8 : late ≤ 8) (ho : Own M M2 refs rows) (hg : M g = none) (e3 : M3 g = some (.lst (refs.map .ref))) (er : ∀ a ∈ refs, M3 a = M2 a) (ex : Ex M M3) (gr : GdR rows)
    (q : ∀ rows winds top kvs, Gd rows winds top → Q (worldD rows winds top kvs) M) : t__law_world_3 { nx := fun _ M' => Q .non M', rt := Q } [some (.ref b), some (.int most), some (.int late), x3, x4, some (.ref g), none, none, none, none, x10] M3 := by
  simp only [t__law_world_3, dRet, dCall, dCons, dFz, dVar]
  simp only [List.getElem?_cons_succ, List.getElem?_cons_zero]
  refine fz_new (M0 := M) ex ?_
  rw [rs_lstO (n := 8) hg e3, rs_refs (n := 7) ho gr.tl (fun a ha => ho.fn a ha) er]
  simp only [dLc, dRng1, dCall, dCons, dVar, dOp, dC, dNil, addD]
  simp only [List.getElem?_cons_succ, List.getElem?_cons_zero]
  refine draw_i hb (by omega) (by omega) fun n h0 h1 => ?_
  refine ⟨by omega, ?_⟩
  refine compi_any (P := fun d => ∃ ts, gust ts ∧ d = .tup ts) _ _ _ (fun y hy Q' h' => ?_) (by simp [rng_len]; omega) fun ds hd hp => ?_
  · exact ⟨b, rfl, hb, fun ts hts => h' _ ⟨ts, hts, rfl⟩⟩
  · obtain ⟨winds, rfl, hw⟩ := gusts_of ds hp
    rw [rng_len] at hd
    simp at hd
    refine ⟨b, rfl, hb, fun i i0 i1 => ?_⟩
    have gd' : Gd rows winds i := ⟨gr, by omega, hw, i0, i1⟩
    refine ⟨rows, windsD 0 winds, .int i, rfl, winds_plain fun x hx => (hw x hx).2, rfl, gr.hi, fun r hr => (gd'.row_len hr).2, gr.tl, fun kvs => ?_⟩
    exact q rows winds i kvs gd'
theorem any_rows {r : Nat} {rows : List (List D)} {o0 o1 o2 o3 o4 o10 : Option D} {M : Mu} {Q : DK} (h6 : rows.length ≤ 6) (hr : ∀ x ∈ rows, x.length ≤ 6) (q : Q (.bl (water rows)) M) :
    dCB anyD (dCons (dLc (dIt (dVar 5)) (gNm 9) dYes (dCB anyD (dCons (dLc (dIt (dVar 9)) (gNm 8) dYes (dOp notND (dVar 8) (dC .non)) [8]) dNil)) [9]) dNil) [o0, o1, o2, o3, o4, some (rowsD r rows), none, none, none, none, o10] M Q := by
  show compi _ _ _ _ (rows.map (D.lst r)) _ _ _
  refine compi_of (f := fun x => .bl (x.any fun t => !DL.isNon t)) rows _ _ (fun x hx Q' h' => ?_) (by simp; omega) ?_
  · show compi _ _ _ _ x _ _ _
    refine compi_map (f := fun t => .bl (!DL.isNon t)) x _ _ (fun t ht Q2 h2 => h2) (by simp; have := hr x hx; omega) ?_
    refine ⟨x.map fun t => !DL.isNon t, by simp, ?_⟩
    simpa using h'
  · refine ⟨rows.map fun x => x.any fun t => !DL.isNon t, by simp, ?_⟩
    have : (rows.map fun x => x.any fun t => !DL.isNon t).any id = water rows := by simp [water]
    rw [this]; exact q
theorem setM_comm {M : Mu} {a b : Addr} {m n : MO} (h : a ≠ b) : setM (setM M a m) b n = setM (setM M b n) a m := by
  funext x
  unfold setM
  by_cases h1 : x = a
  · subst h1; simp [h]
  · simp [h1]
theorem pure__law_world : ∀ ds M Q E, sp__law_world ds M Q E → ds.length = (["_law_bag_here", "_law_most_z", "_law_late"] : List Str).length ∧ t__law_world { nx := fun _ M' => Q .non M', rt := Q } (startD ["_law_bag_here", "_law_most_z", "_law_late", "_law_tall", "_law_wide", "_law_ground", "_law_k", "_law_m", "_law_item", "_law_items", "_law_spot"] ds) M := by
  rintro ds M Q E ⟨b, most, late, rfl, hb, m1, m6, l0, l8, q⟩
  refine ⟨rfl, ?_⟩
  simp [t__law_world]
  refine draw_i (many := most) hb (by omega) (by omega) fun n n0 n1 => ?_
  simp
  refine draw_i (many := most) hb (by omega) (by omega) fun k k0 k1 => ?_
  obtain ⟨n, rfl⟩ := Int.eq_ofNat_of_zero_le n0
  obtain ⟨k, rfl⟩ := Int.eq_ofNat_of_zero_le k0
  simp
  have en : (1 : Int) + (n : Int) = ((n + 1 : Nat) : Int) := by omega
  have ek : (1 : Int) + (k : Int) = ((k + 1 : Nat) : Int) := by omega
  rw [en, ek]
  simp only [t__law_world_5, dSeq, dAsg]
  refine ⟨by omega, ?_⟩
  refine comp_rows (M0 := M) (b := b) (wide := k + 1) (n := n + 1) hb (by omega) (by omega) (fun d => ⟨rfl, fun e => rfl⟩) _ (fun refs rows M' g ho ht hn hg => ?_) _ [] [] M Own.nil (by simp) (by simp [rng_len])
  simp only [gNm]
  have hMg : M g = none := by
    cases e : M g with
    | none => rfl
    | some m => rw [ho.ex g m e] at hg; cases hg
  have hgr : g ∉ refs := fun z => by obtain ⟨xs, _, e⟩ := ho.mem z; rw [e] at hg; cases hg
  have ex3 : Ex M (setM M' g (.lst (refs.map .ref))) := Ex.trans ho.ex (fun a m e => by rw [setM_ne (fun z => by subst z; rw [hg] at e; cases e)]; exact e)
  have wd : ∀ x ∈ rows, x.length = k + 1 := fun x hx => (ht x hx).1
  show t__law_world_4 { nx := fun _ M' => Q .non M', rt := Q } [some (.ref b), some (.int most), some (.int late), some (.int ((n + 1 : Nat) : Int)), some (.int ((k + 1 : Nat) : Int)), some (.ref g), none, none, none, none, none] (setM M' g (.lst (refs.map .ref)))
  simp only [t__law_world_4, dSeq, dIfS, dNot, dB]
  refine ⟨fun x => x = g ∨ x ∈ refs, fun x hx => ?_, fun r hr hno => ?_⟩
  · rcases hx with rfl | hx
    · exact ⟨_, setM_same⟩
    · obtain ⟨xs, _, e⟩ := ho.mem hx
      exact ⟨xs, by rw [setM_ne (fun z => by subst z; exact hgr hx)]; exact e⟩
  have eld : ld (setM M' g (.lst (refs.map .ref))) (fun x => x = g ∨ x ∈ refs) r 9 (.ref g) = rowsD r rows := by
    rw [ld, if_pos (.inl rfl), setM_same]
    simp only
    rw [ld_refs (n := 7) ho (fun x hx => (ht x hx).2) (fun a ha => .inr ha) (fun a ha => setM_ne (fun z => by subst z; exact hgr ha))]
    rfl
  simp only [List.map_cons, List.map_nil, Option.map_some, Option.map_none, eld]
  refine any_rows (by omega) (fun x hx => by rw [wd x hx]; omega) ?_
  simp only [isB]
  refine ⟨rfl, fun a m e => hno a m (drop_some e), ?_⟩
  rw [back_drop]
  cases hw : water rows with
  | true =>
    simp only [Bool.not_true, Bool.false_eq_true, if_false, dNext]
    exact world_fin hb l0 l8 ho hMg setM_same (fun a ha => setM_ne (fun z => by subst z; exact hgr ha)) ex3 ⟨by omega, by omega, ⟨k + 1, by omega, by omega, wd⟩, fun x hx => (ht x hx).2, hw⟩ q
  | false =>
    simp only [Bool.not_false, if_true, t__law_world_2, dSeq, dAsg, dCall, dCons, dVar, dNil]
    have hb3 := ex3 b _ hb
    refine draw_i (many := ((k + 1 : Nat) : Int)) hb3 (by omega) (by omega) fun s s0 s1 => ?_
    simp only [gNm, t__law_world_1, dAsg, dCall, dCons, dVar, dC, dNil]
    refine draw_i (many := 4) hb3 (by omega) (by omega) fun v v0 v1 => ?_
    obtain ⟨s, rfl⟩ := Int.eq_ofNat_of_zero_le s0
    have h0 : 0 < refs.length := by rw [ho.ln]; omega
    have h0' : 0 < rows.length := by omega
    have e0 : refs[0]? = some refs[0] := List.getElem?_eq_getElem h0
    have e0' : rows[0]? = some rows[0] := List.getElem?_eq_getElem h0'
    have er := ho.it 0 _ _ e0 e0'
    have hne : refs[0] ≠ g := fun z => hgr (z ▸ List.getElem_mem h0)
    have hlen := wd rows[0] (List.getElem_mem h0')
    have eat : atI (refs.map D.ref) 0 = some (.ref refs[0]) := by
      have := atI_nat (xs := refs.map D.ref) (i := 0) (by simpa using h0)
      simpa using this
    have eix : ixN rows[0].length (s : Int) = some s := by simp [ixN]; omega
    simp [dctT, setM_same, eat, setM_ne hne, er, eix]
    have hr0 : refs[0] ∈ refs := List.getElem_mem h0
    have hrow := ht rows[0] (List.getElem_mem h0')
    refine world_fin (M2 := setM M' refs[0] (.lst (rows[0].set s (.int v)))) (rows := rows.set 0 (rows[0].set s (.int v))) hb l0 l8 (ho.set e0) hMg (by rw [setM_ne hne.symm]; exact setM_same) (fun a ha => by
      rw [setM_comm hne.symm, setM_ne (show a ≠ g from fun z => by subst z; exact hgr ha)]) (fun a m e => by
      rw [setM_ne (show a ≠ refs[0] from fun z => by subst z; rw [ho.fn _ hr0] at e; cases e)]; exact ex3 a m e) ?_ q
    have tv : toll (.int v) := .inr ⟨v, rfl, v0, by omega⟩
    have tr : ∀ t ∈ rows[0].set s (.int v), toll t := fun t h => by
      rcases List.mem_or_eq_of_mem_set h with h | rfl
      · exact hrow.2 t h
      · exact tv
    refine ⟨by simpa using by omega, by simpa using by omega, ⟨k + 1, by omega, by omega, fun x hx => ?_⟩, fun x hx => ?_, ?_⟩
    · rcases List.mem_or_eq_of_mem_set hx with h | rfl
      · exact wd x h
      · simpa using hlen
    · rcases List.mem_or_eq_of_mem_set hx with h | rfl
      · exact (ht x h).2
      · exact tr
    · unfold water
      rw [List.any_eq_true]
      refine ⟨rows[0].set s (.int v), List.mem_iff_getElem.mpr ⟨0, by simpa using h0', by simp⟩, ?_⟩
      rw [List.any_eq_true]
      exact ⟨.int v, List.mem_iff_getElem.mpr ⟨s, by simp; omega, by simp⟩, rfl⟩
theorem noR_toll {r : Nat} {t : D} (h : toll t) : noR r t = true := by rcases h with rfl | ⟨i, rfl, _⟩ <;> rfl
theorem noR_rows {r : Nat} {rows : List (List D)} (hr : r ≠ 0) (h : ∀ x ∈ rows, ∀ t ∈ x, toll t) : noR r (rowsD 0 rows) = true := by
  simp only [rowsD, noR, noRL_all, Bool.and_eq_true, decide_eq_true_eq, List.all_eq_true, List.mem_map]
  refine ⟨hr.symm, ?_⟩
  rintro _ ⟨x, hx, rfl⟩
  simp only [noR, noRL_all, Bool.and_eq_true, decide_eq_true_eq, List.all_eq_true]
  exact ⟨hr.symm, fun t ht => noR_toll (h x hx t ht)⟩
theorem noR_winds {r : Nat} {rows : List (List D)} (hr : r ≠ 0) (h : ∀ x ∈ rows, ∀ t ∈ x, toll t) : noR r (windsD 0 rows) = true := by
  simp only [windsD, noR, noRL_all, Bool.and_eq_true, decide_eq_true_eq, List.all_eq_true, List.mem_map]
  refine ⟨hr.symm, ?_⟩
  rintro _ ⟨x, hx, rfl⟩
  simp only [noR, noRL_all, List.all_eq_true]
  exact fun t ht => noR_toll (h x hx t ht)
theorem noRK_of {r : Nat} : ∀ {kvs : List (D × D)}, (∀ p ∈ kvs, toll p.2) → noRK r kvs = true
  | [], _ => rfl
  | (k, d) :: l, h => by rw [noRK, noR_toll (h (k, d) List.mem_cons_self), noRK_of fun p hp => h p (List.mem_cons_of_mem _ hp)]; rfl
theorem noRM_chart {r : Nat} {rows winds : List (List D)} {top : Int} {b : Addr} (hr : r ≠ 0) (g : Gd rows winds top) : noRM r (.ins "Chart" (chartF rows winds top (.ref b))) = true := by
  simp [noRM, chartF, noRF, noR_rows hr g.r.tl, noR_winds hr fun x hx => (g.wg x hx).2]
  simp [noR]
theorem noRM_dT {r : Nat} {kvs : List (List Key × D)} (h : ∀ p ∈ kvs, toll p.2) : noRM r (.dT kvs) = true := by
  refine noRK_of fun p hp => ?_
  obtain ⟨q, hq, rfl⟩ := List.mem_map.mp hp
  exact h q hq
theorem ld_winds {M : Mu} {lent : Addr → Prop} {r n : Nat} {ws : List (List D)} (h : ∀ x ∈ ws, ∀ t ∈ x, toll t) : (ws.map D.tup).map (ld M lent r (n + 1)) = ws.map D.tup := by
  rw [List.map_map]
  refine List.map_congr_left fun x hx => ?_
  simp only [Function.comp, ld]
  rw [map_same fun t ht => ld_toll (h x hx t ht)]
theorem rs_winds {M : Mu} {dead : Addr → Prop} {n : Nat} {ws : List (List D)} (h : ∀ x ∈ ws, ∀ t ∈ x, toll t) : (ws.map D.tup).map (rs M dead (n + 1)) = ws.map D.tup := by
  rw [List.map_map]
  refine List.map_congr_left fun x hx => ?_
  simp only [Function.comp, rs_tup]
  rw [map_same fun t ht => rs_toll (h x hx t ht)]
theorem rs_chart {M : Mu} {dead : Addr → Prop} {a b : Addr} {rows winds : List (List D)} {top : Int} {kvs : List (List Key × D)} (g : Gd rows winds top) (ha : dead a) (hb : dead b) (ea : M a = some (.ins "Chart" (chartF rows winds top (.ref b)))) (eb : M b = some (.dT kvs)) : ∃ kvs', rs M dead 9 (.ref a) = chartD rows winds top kvs' := by
  refine ⟨kvs.map fun p => (tkeyD p.1, rs M dead 7 p.2), ?_⟩
  rw [rs_insO (n := 8) ha ea]
  simp only [chartF, List.map_cons, List.map_nil, rs_int]
  rw [rs_plain (rows_plain g.r.tl), rs_plain (winds_plain fun x hx => (g.wg x hx).2), rs_dTO (n := 7) hb eb]
  rfl
theorem enum_mem : ∀ {xs : List D} {j : Nat} {d : D}, d ∈ enumD j xs → ∃ (i : Nat) (x : D), x ∈ xs ∧ d = .tup [.int i, x]
  | [], j, d, h => by simp [enumD] at h
  | x :: xs, j, d, h => by
    simp only [enumD, List.mem_cons] at h
    rcases h with rfl | h
    · exact ⟨j, x, List.mem_cons_self, rfl⟩
    · obtain ⟨i, y, hy, e⟩ := enum_mem h
      exact ⟨i, y, List.mem_cons_of_mem _ hy, e⟩
end HS
/-! Shared by the laws of charts: texts of charts, what each def promises. -/
namespace HS
open PySem L2 DL
open SX (S)
def itemL (miss : Nat) : D → List Nat
  | .int i => TL.numL i.toNat
  | _ => [miss]
def lineL (word : List Nat) (miss : Nat) (xs : List D) : List Nat := TL.joinL [32] (word :: xs.map (itemL miss))
def cRow : List Nat := [114, 111, 119]
def cWind : List Nat := [119, 105, 110, 100]
def cChart : List Nat := [99, 104, 97, 114, 116]
def cEnd : List Nat := [101, 110, 100]
def topL (top : Nat) : List Nat := TL.joinL [32] [cChart, TL.numL top]
def linesL (rows winds : List (List D)) (top : Nat) : List (List Nat) := topL top :: (rows.map (lineL cRow 46) ++ (winds.map (lineL cWind 45) ++ [cEnd]))
def chartL (rows winds : List (List D)) (top : Nat) : List Nat := ((linesL rows winds top).map (· ++ [10])).flatten
def wordsD (m : Nat) (xs : List D) : List D := xs.map fun t => .str (S (itemL m t))
def sp_items_text : DSp := fun ds M Q _ => ∃ w x m xs, ds = [.str (S w), x, .str (S [m])] ∧ seq x = some xs ∧ (∀ t ∈ xs, toll t) ∧ xs.length ≤ 8 ∧ w.length ≤ 10 ∧ Q (.str (S (lineL w m xs ++ [10]))) M
def sp_chart_rows_text : DSp := fun ds M Q _ => ∃ R W rows winds top, ds = [R, W, .int top] ∧ rowsOf R rows ∧ rowsOf W winds ∧ Gd rows winds top ∧ Q (.str (S (chartL rows winds top.toNat))) M
def sp__law_chart_text : DSp := fun ds M Q _ => ∃ rows winds top, ds = [rowsD 0 rows, windsD 0 winds, .int top] ∧ Gd rows winds top ∧ Q (.str (S (chartL rows winds top.toNat))) M
def sp_Chart_text : DSp := fun ds M Q _ => ∃ rows winds top kvs, ds = [chartD rows winds top kvs] ∧ Gd rows winds top ∧ Q (.str (S (chartL rows winds (Int.toNat top)))) M
end HS
/-! Shared by the laws of charts: texts of charts, readings. Printed by a program of mine. -/
namespace HS
open PySem L2 DL
def t_items_text_1 : DS := (dRet (dOp addD (dM1 joinD (dC (.str " ")) (dLst (dCons (dVar 0) (dStar (dVar 3) dNil)))) (dC (.str "\n"))))
def t_items_text : DS := (dSeq (dAsg (dLc (dIt (dVar 1)) (gNm 4) dYes (dIf (dB (dOp isND (dVar 4) (dC .non))) (dVar 2) (dCB strE (dCons (dVar 4) dNil))) [4]) (gNm 3)) t_items_text_1)
def t_chart_rows_text_1 : DS := (dRet (dOp addD (dM1 joinD (dC (.str "")) (dFz (dVar 3))) (dC (.str "end\n"))))
def t_chart_rows_text_2 : DS := (dSeq (dDrop (dExt (dVar 3) (dLc (dIt (dVar 1)) (gNm 5) dYes (dCall sp_items_text DX0 (dCons (dC (.str "wind")) (dCons (dVar 5) (dCons (dC (.str "-")) dNil)))) [5]))) t_chart_rows_text_1)
def t_chart_rows_text_3 : DS := (dSeq (dDrop (dExt (dVar 3) (dLc (dIt (dVar 0)) (gNm 4) dYes (dCall sp_items_text DX0 (dCons (dC (.str "row")) (dCons (dVar 4) (dCons (dC (.str ".")) dNil)))) [4]))) t_chart_rows_text_2)
def t_chart_rows_text : DS := (dSeq (dAsg (dLstO (dCons (dJoined [(dC (.str "chart ")), (dFmt (dVar 2)), (dC (.str "\n"))]) dNil)) (gNm 3)) t_chart_rows_text_3)
def t__law_chart_text_1 : DS := (dDrop (dApp (dVar 3) (dM1 joinD (dC (.str " ")) (dOp addD (dLst (dCons (dC (.str "row")) dNil)) (dLc (dIt (dVar 4)) (gNm 5) dYes (dIf (dB (dOp isND (dVar 5) (dC .non))) (dC (.str ".")) (dCB strE (dCons (dVar 5) dNil))) [5])))))
def t__law_chart_text_2 : DS := (dDrop (dApp (dVar 3) (dM1 joinD (dC (.str " ")) (dOp addD (dLst (dCons (dC (.str "wind")) dNil)) (dLc (dIt (dVar 6)) (gNm 7) dYes (dIf (dB (dOp isND (dVar 7) (dC .non))) (dC (.str "-")) (dCB strE (dCons (dVar 7) dNil))) [7])))))
def t__law_chart_text_3 : DS := (dRet (dM1 joinD (dC (.str "")) (dLc (dIt (dOp addD (dFz (dVar 3)) (dLst (dCons (dC (.str "end")) dNil)))) (gNm 8) dYes (dOp addD (dVar 8) (dC (.str "\n"))) [8])))
def t__law_chart_text_4 : DS := (dSeq (dFor (dIt (dVar 1)) (gNm 6) t__law_chart_text_2) t__law_chart_text_3)
def t__law_chart_text_5 : DS := (dSeq (dFor (dIt (dVar 0)) (gNm 4) t__law_chart_text_1) t__law_chart_text_4)
def t__law_chart_text : DS := (dSeq (dAsg (dLstO (dCons (dOp addD (dC (.str "chart ")) (dCB strE (dCons (dVar 2) dNil))) dNil)) (gNm 3)) t__law_chart_text_5)
def t_Chart_text : DS := (dRet (dCall sp_chart_rows_text DX0 (dCons (dFld "Chart" "held_rows" (dVar 0)) (dCons (dFld "Chart" "held_winds" (dVar 0)) (dCons (dFld "Chart" "top" (dVar 0)) dNil)))))
end HS
/-! Shared by the laws of charts: texts of charts, the defs keep their promises, over data. -/
namespace HS
open PySem L2 DL
open SX (S)
theorem num2 (n : Nat) (h : n ≤ 99) : (n < 10 ∧ TL.numL n = [48 + n]) ∨ (10 ≤ n ∧ ∃ d e, 1 ≤ d ∧ d < 10 ∧ e < 10 ∧ n = 10 * d + e ∧ TL.numL n = [48 + d, 48 + e]) := by
  by_cases h1 : n < 10
  · exact .inl ⟨h1, TL.numL_lt h1⟩
  · refine .inr ⟨by omega, n / 10, n % 10, by omega, by omega, by omega, by omega, ?_⟩
    rw [TL.numL_step (by omega), TL.numL_lt (by omega)]; rfl
theorem num_dig {n c : Nat} (h : c ∈ TL.numL n) : 48 ≤ c ∧ c ≤ 57 := by
  have := TL.numL_digits n
  exact this c h
theorem num_len {n : Nat} (h : n ≤ 99) : 1 ≤ (TL.numL n).length ∧ (TL.numL n).length ≤ 2 := by
  rcases num2 n h with ⟨_, e⟩ | ⟨_, d, e, _, _, _, _, h⟩
  · rw [e]; simp
  · rw [h]; simp
theorem S_len (a : List Nat) : (S a).length = a.length := SX.S_len a
theorem dig_in : ∀ c : Nat, 48 ≤ c → c ≤ 57 → subText ⟨#[c]⟩ (Str.ofString "0123456789") = true := by
  intro c h0 h1
  have : c = 48 ∨ c = 49 ∨ c = 50 ∨ c = 51 ∨ c = 52 ∨ c = 53 ∨ c = 54 ∨ c = 55 ∨ c = 56 ∨ c = 57 := by omega
  rcases this with rfl | rfl | rfl | rfl | rfl | rfl | rfl | rfl | rfl | rfl <;> decide +kernel
theorem int_numL {n : Nat} (h : n ≤ 99) : intText? (S (TL.numL n)) = some (n : Int) := by
  rw [← SX.num_S]
  exact TL.int_num (by have := num_len h; omega)
theorem signs_S (a : List Nat) : signs (S a) = a.map fun c => .str ⟨#[c]⟩ := rfl
theorem itS_num (i : Int) (h : 0 ≤ i) : Str.ofString (toString i) = S (TL.numL i.toNat) := by
  obtain ⟨n, rfl⟩ := Int.eq_ofNat_of_zero_le h
  exact SX.num_S n
theorem itS_rep (i : Int) (h : 0 ≤ i) : Str.ofString i.repr = S (TL.numL i.toNat) := itS_num i h
theorem log_ok {i : Int} (h : 0 ≤ i) (h1 : i ≤ 99) : i.natAbs.log2 < 1920 := by
  have h2 : i.natAbs ≤ 99 := by omega
  by_cases h0 : i.natAbs = 0
  · rw [h0]; decide
  · have := (Nat.log2_lt h0 (k := 1920)).mpr (Nat.lt_of_le_of_lt h2 (by
      calc 99 < 2 ^ 7 := by decide
        _ ≤ 2 ^ 1920 := Nat.pow_le_pow_right (by decide) (by decide)))
    exact this
theorem item_len {m : Nat} {t : D} (h : toll t) : 1 ≤ (itemL m t).length ∧ (itemL m t).length ≤ 2 := by
  rcases h with rfl | ⟨i, rfl, h0, h1⟩
  · simp [itemL]
  · exact num_len (by omega)
theorem sum_le : ∀ (l : List Nat) (k : Nat), (∀ x ∈ l, x ≤ k) → l.sum ≤ l.length * k
  | [], k, _ => by simp
  | x :: l, k, h => by
    have h1 := h x List.mem_cons_self
    have h2 := sum_le l k fun y hy => h y (List.mem_cons_of_mem _ hy)
    rw [List.sum_cons, List.length_cons, Nat.add_mul]; omega
theorem join_sp (l : List (List Nat)) : Txt.join (Str.ofString " ") (l.map S) = S (TL.joinL [32] l) := SX.join_S [32] l
theorem lens_S (l : List (List Nat)) : (l.map S).map (fun x => x.length) = l.map List.length := SX.lens l
theorem joinL_len (sp : List Nat) : ∀ l : List (List Nat), (TL.joinL sp l).length ≤ (l.map List.length).sum + l.length * sp.length
  | [] => by simp [TL.joinL]
  | [p] => by simp [TL.joinL]
  | p :: q :: r => by
    have := joinL_len sp (q :: r)
    simp only [TL.joinL, List.length_append, List.map_cons, List.sum_cons, List.length_cons] at this ⊢
    have e : (r.length + 1 + 1) * sp.length = (r.length + 1) * sp.length + sp.length := by rw [Nat.add_mul (r.length + 1)]; omega
    omega
theorem items_sum {m : Nat} {xs : List D} (ht : ∀ t ∈ xs, toll t) : ((xs.map (itemL m)).map List.length).sum ≤ xs.length * 2 := by
  have := sum_le ((xs.map (itemL m)).map List.length) 2 (fun y hy => by
    obtain ⟨z, hz, rfl⟩ := List.mem_map.mp hy
    obtain ⟨t, h, rfl⟩ := List.mem_map.mp hz
    exact (item_len (ht t h)).2)
  simpa using this
theorem line_len {w : List Nat} {m : Nat} {xs : List D} (ht : ∀ t ∈ xs, toll t) : (lineL w m xs).length ≤ w.length + xs.length * 3 + 1 := by
  have h1 := joinL_len [32] (w :: xs.map (itemL m))
  have h2 := items_sum (m := m) ht
  simp only [List.map_cons, List.sum_cons, List.length_cons, List.length_map, List.length_nil] at h1
  unfold lineL
  omega
theorem pure_items_text : ∀ ds M Q E, sp_items_text ds M Q E → ds.length = (["word", "items", "missing"] : List Str).length ∧ t_items_text { nx := fun _ M' => Q .non M', rt := Q } (startD ["word", "items", "missing", "words", "item"] ds) M := by
  rintro ds M Q E ⟨w, x, m, xs, rfl, hs, ht, hl, hw, q⟩
  refine ⟨rfl, ?_⟩
  have key : ∀ K : DK, K (.lst 0 (xs.map fun t => .str (S (itemL m t)))) M → compi (gNm 4) dYes (dIf (dB (dOp isND (dVar 4) (dC .non))) (dVar 2) (dCB strE (dCons (dVar 4) dNil))) [some (.str (S w)), some x, some (.str (S [m])), none, none] xs [] M K := fun K hK => by
    refine compi_map (f := fun t => .str (S (itemL m t))) xs _ _ (fun t hx Q' h' => ?_) (by simp; omega) (by simpa using hK)
    rcases ht t hx with rfl | ⟨i, rfl, h0, h1⟩
    · simpa [DL.isNon, itemL] using h'
    · simp [DL.isNon]
      exact ⟨log_ok h0 h1, by rw [itS_rep i h0]; exact h'⟩
  have fin : t_items_text_1 { nx := fun _ M' => Q .non M', rt := Q } [some (.str (S w)), some x, some (.str (S [m])), some (.lst 0 (xs.map fun t => .str (S (itemL m t)))), none] M := by
    simp [t_items_text_1]
    refine ⟨by omega, (w :: xs.map (itemL m)).map S, by simp, ?_⟩
    have h1 : (lineL w m xs).length ≤ w.length + xs.length * 3 + 1 := line_len ht
    rw [join_sp, lens_S]
    change _ ∧ (S (lineL w m xs)).length + _ ≤ _ ∧ Q (.str (S (lineL w m xs) ++ _)) M
    have h2 := items_sum (m := m) ht
    have e1 : (Str.ofString " ").length = 1 := by decide +kernel
    have e2 : (Str.ofString "\n").length = 1 := by decide +kernel
    rw [e1, e2, S_len, show S (lineL w m xs) ++ Str.ofString "\n" = S (lineL w m xs ++ [10]) from SX.S_cat _ [10]]
    simp only [List.map_cons, List.sum_cons, List.length_cons, List.length_map]
    exact ⟨by omega, by omega, q⟩
  unfold t_items_text
  refine s_set (v := .lst 0 (xs.map fun t => .str (S (itemL m t)))) (fun K hK => ?_) fin
  rcases seq_len hs with ⟨r, rfl⟩ | rfl
  · simp only [dLc, dIt, dVar]
    exact key K hK
  · simp only [dLc, dIt, dVar]
    exact key K hK
theorem rows_map {α : Type} {ds : List D} {rows : List (List D)} (h : ds.map seq = rows.map some) (g : List D → α) : ds.map (fun d => g ((seq d).getD [])) = rows.map g := by
  have : ds.map (fun d => g ((seq d).getD [])) = (ds.map seq).map fun o => g (o.getD []) := by simp
  rw [this, h]; simp
theorem rows_mem {ds : List D} {rows : List (List D)} (h : ds.map seq = rows.map some) {d : D} (hd : d ∈ ds) : ∃ r ∈ rows, seq d = some r := by
  have : seq d ∈ rows.map some := by rw [← h]; exact List.mem_map_of_mem hd
  obtain ⟨r, hr, e⟩ := List.mem_map.mp this
  exact ⟨r, hr, e.symm⟩
theorem rows_len {ds : List D} {rows : List (List D)} (h : ds.map seq = rows.map some) : ds.length = rows.length := by
  have := congrArg List.length h
  simpa using this
theorem joinL_nil : ∀ l : List (List Nat), TL.joinL [] l = l.flatten
  | [] => rfl
  | [p] => by simp [TL.joinL]
  | p :: q :: r => by rw [TL.joinL, joinL_nil (q :: r)]; simp
theorem join_0 (l : List (List Nat)) : Txt.join (Str.ofString "") (l.map S) = S l.flatten := by
  rw [← joinL_nil]; exact SX.join_S [] l
theorem flat_le (l : List (List Nat)) (k : Nat) (h : ∀ x ∈ l, x.length ≤ k) : l.flatten.length ≤ l.length * k := by
  rw [List.length_flatten]
  have := sum_le (l.map List.length) k (fun y hy => by obtain ⟨z, hz, rfl⟩ := List.mem_map.mp hy; exact h z hz)
  simpa using this
theorem top_len {n : Nat} (h : n ≤ 99) : (topL n).length ≤ 8 := by
  have := num_len h
  simp [topL, TL.joinL, cChart]; omega
theorem Gd.top_nat {rows winds : List (List D)} {top : Int} (g : Gd rows winds top) : top.toNat ≤ 99 ∧ 1 ≤ top.toNat := by have := g.t0; have := g.t1; omega
theorem Gd.lines_le {rows winds : List (List D)} {top : Int} (g : Gd rows winds top) : ∀ x ∈ (linesL rows winds top.toNat).map (· ++ [10]), x.length ≤ 26 := by
  intro x hx
  obtain ⟨y, hy, rfl⟩ := List.mem_map.mp hx
  have : y.length ≤ 25 := by
    simp only [linesL, List.mem_cons, List.mem_append, List.mem_map, List.not_mem_nil, or_false] at hy
    rcases hy with rfl | ⟨r, hr, rfl⟩ | ⟨r, hr, rfl⟩ | rfl
    · have := top_len g.top_nat.1; omega
    · have := line_len (w := cRow) (m := 46) (g.r.tl r hr); have := g.row_len hr; simp [cRow] at *; omega
    · have := line_len (w := cWind) (m := 45) (g.wg r hr).2; have := (g.wg r hr).1; simp [cWind] at *; omega
    · decide
  simp; omega
theorem Gd.lines_n {rows winds : List (List D)} {top : Int} (g : Gd rows winds top) : (linesL rows winds top.toNat).length = 2 + rows.length + winds.length := by
  simp [linesL]; omega
theorem Gd.chart_len {rows winds : List (List D)} {top : Int} (g : Gd rows winds top) : (chartL rows winds top.toNat).length ≤ 416 := by
  have h := flat_le _ 26 g.lines_le
  rw [List.length_map, g.lines_n] at h
  have := g.r.hi; have := g.wn
  unfold chartL
  have : (2 + rows.length + winds.length) * 26 ≤ 16 * 26 := Nat.mul_le_mul_right _ (by omega)
  omega
theorem top_text {top : Int} (h0 : 0 ≤ top) : Str.empty ++ Str.ofString "chart " ++ Str.ofString (toString top) ++ Str.ofString "\n" = S (topL top.toNat ++ [10]) := by
  rw [itS_num top h0]
  show S [] ++ S [99, 104, 97, 114, 116, 32] ++ S _ ++ S [10] = _
  rw [SX.S_cat, SX.S_cat, SX.S_cat]
  simp [topL, TL.joinL, cChart]
def rowT (rows : List (List D)) : List D := rows.map fun r => .str (S (lineL cRow 46 r ++ [10]))
def windT (winds : List (List D)) : List D := winds.map fun r => .str (S (lineL cWind 45 r ++ [10]))
theorem pure_chart_rows_text : ∀ ds M Q E, sp_chart_rows_text ds M Q E → ds.length = (["rows", "winds", "top"] : List Str).length ∧ t_chart_rows_text { nx := fun _ M' => Q .non M', rt := Q } (startD ["rows", "winds", "top", "lines", "row", "wind"] ds) M := by
  rintro ds M Q E ⟨R, W, rows, winds, top, rfl, ⟨dr, hr1, hr2⟩, ⟨dw, hw1, hw2⟩, g, q⟩
  refine ⟨rfl, ?_⟩
  have hR : ∀ (M : Mu) (l : Option D) (K : DK), K (.lst 0 (rowT rows)) M → dLc (dIt (dVar 0)) (gNm 4) dYes (dCall sp_items_text DX0 (dCons (dC (.str "row")) (dCons (dVar 4) (dCons (dC (.str ".")) dNil)))) [4] [some R, some W, some (.int top), l, none, none] M K := fun M l K hK => by
    have hh : compi (gNm 4) dYes (dCall sp_items_text DX0 (dCons (dC (.str "row")) (dCons (dVar 4) (dCons (dC (.str ".")) dNil)))) [some R, some W, some (.int top), l, none, none] dr [] M K := by
      refine compi_map (f := fun d => .str (S (lineL cRow 46 ((seq d).getD []) ++ [10]))) dr _ _ (fun d hd Q' h' => ?_) (by simp; rw [rows_len hr2]; have := g.r.hi; omega) (by rw [rows_map hr2 (fun r => D.str (S (lineL cRow 46 r ++ [10])))]; exact hK)
      obtain ⟨r, hr, e⟩ := rows_mem hr2 hd
      simp
      rw [e] at h'
      exact ⟨cRow, d, 46, r, rfl, e, g.r.tl r hr, by have := g.row_len hr; omega, by decide, h'⟩
    rcases seq_len hr1 with ⟨t, rfl⟩ | rfl
    · exact hh
    · exact hh
  have hW : ∀ (M : Mu) (l : Option D) (K : DK), K (.lst 0 (windT winds)) M → dLc (dIt (dVar 1)) (gNm 5) dYes (dCall sp_items_text DX0 (dCons (dC (.str "wind")) (dCons (dVar 5) (dCons (dC (.str "-")) dNil)))) [5] [some R, some W, some (.int top), l, none, none] M K := fun M l K hK => by
    have hh : compi (gNm 5) dYes (dCall sp_items_text DX0 (dCons (dC (.str "wind")) (dCons (dVar 5) (dCons (dC (.str "-")) dNil)))) [some R, some W, some (.int top), l, none, none] dw [] M K := by
      refine compi_map (f := fun d => .str (S (lineL cWind 45 ((seq d).getD []) ++ [10]))) dw _ _ (fun d hd Q' h' => ?_) (by simp; rw [rows_len hw2]; have := g.wn; omega) (by rw [rows_map hw2 (fun r => D.str (S (lineL cWind 45 r ++ [10])))]; exact hK)
      obtain ⟨r, hr, e⟩ := rows_mem hw2 hd
      simp
      rw [e] at h'
      exact ⟨cWind, d, 45, r, rfl, e, (g.wg r hr).2, by have := (g.wg r hr).1; omega, by decide, h'⟩
    rcases seq_len hw1 with ⟨t, rfl⟩ | rfl
    · exact hh
    · exact hh
  simp [t_chart_rows_text, dJs]
  have t0 : 0 ≤ top := by have := g.t0; omega
  have tl := top_text t0
  have hn := num_len g.top_nat.1
  have hl1 : (Str.empty ++ Str.ofString "chart ").length = 6 := by decide +kernel
  have hl2 : (Str.empty ++ Str.ofString "chart " ++ Str.ofString top.repr).length ≤ 8 := by
    rw [itS_rep top t0, show Str.empty ++ Str.ofString "chart " ++ S (TL.numL top.toNat) = S ([99, 104, 97, 114, 116, 32] ++ TL.numL top.toNat) from SX.S_cat _ _, S_len]
    simp; omega
  have tl' : Str.empty ++ Str.ofString "chart " ++ Str.ofString top.repr ++ Str.ofString "\n" = S (topL top.toNat ++ [10]) := tl
  rw [tl']
  have hl3 : (S (topL top.toNat ++ [10])).length ≤ 9 := by rw [S_len]; have := top_len g.top_nat.1; simp; omega
  refine ⟨by omega, log_ok t0 g.t1, by omega, by omega, fun a ha => ?_⟩
  simp only [t_chart_rows_text_3, dSeq, dDrop, dExt, dVar]
  simp only [List.getElem?_cons_succ, List.getElem?_cons_zero, setM_same]
  refine hR _ _ _ ?_
  simp only [setM_same]
  refine ⟨by simp [rowT]; have := g.r.hi; omega, ?_⟩
  rw [setM_set]
  simp only [t_chart_rows_text_2, dSeq, dDrop, dExt, dVar]
  simp only [List.getElem?_cons_succ, List.getElem?_cons_zero, setM_same]
  refine hW _ _ _ ?_
  simp only [setM_same]
  refine ⟨by simp [rowT, windT]; have := g.r.hi; have := g.wn; omega, ?_⟩
  rw [setM_set]
  simp only [t_chart_rows_text_1, dRet, dOp, dM1, dC, dFz, dVar]
  simp only [List.getElem?_cons_succ, List.getElem?_cons_zero]
  refine fz_new (M0 := M) ((Ex.refl M).set ha) ?_
  rw [rs_lstO (n := 8) ha setM_same]
  have e : (([D.str (S (topL top.toNat ++ [10]))] ++ rowT rows ++ windT winds).map (rs (setM M a (.lst ([D.str (S (topL top.toNat ++ [10]))] ++ rowT rows ++ windT winds))) (newIn M) 8)) = (((topL top.toNat :: (rows.map (lineL cRow 46) ++ winds.map (lineL cWind 45))).map (· ++ [10])).map S).map D.str := by
    simp [rowT, windT, List.map_map, Function.comp_def]
  rw [e]
  have hL : (((topL top.toNat :: (rows.map (lineL cRow 46) ++ winds.map (lineL cWind 45))).map (· ++ [10]))).flatten.length + 4 = (chartL rows winds top.toNat).length := by
    simp [chartL, linesL, cEnd]; omega
  have h1 := g.chart_len
  refine ⟨_, rfl, ?_, ?_⟩
  · rw [lens_S, ← List.length_flatten, show (Str.ofString "").length = 0 by decide +kernel]
    omega
  · rw [join_0]
    simp only [addD]
    have e2 : S ((topL top.toNat :: (rows.map (lineL cRow 46) ++ winds.map (lineL cWind 45))).map (· ++ [10])).flatten ++ Str.ofString "end\n" = S (chartL rows winds top.toNat) := by
      refine (SX.S_cat _ [101, 110, 100, 10]).trans ?_
      simp [chartL, linesL, cEnd]
    rw [e2]
    refine ⟨?_, q⟩
    rw [S_len, show (Str.ofString "end\n").length = 4 by decide +kernel]
    omega
theorem pure_Chart_text : ∀ ds M Q E, sp_Chart_text ds M Q E → ds.length = (["self"] : List Str).length ∧ t_Chart_text { nx := fun _ M' => Q .non M', rt := Q } (startD ["self"] ds) M := by
  rintro ds M Q E ⟨rows, winds, top, kvs, rfl, g, q⟩
  refine ⟨rfl, ?_⟩
  simp [t_Chart_text, chart_ins, fld_top, fld_rows, fld_winds]
  exact ⟨_, _, rows, winds, top, rfl, rowsOf_D, rowsOf_W, g, q⟩
theorem line_join {w : List Nat} {m : Nat} {xs : List D} {M : Mu} {Q : DK} (ht : ∀ t ∈ xs, toll t) (hl : xs.length ≤ 8) (hw : w.length ≤ 10) (q : Q (.str (S (lineL w m xs))) M) :
    addD (.lst 0 [.str (S w)]) (.lst 0 (wordsD m xs)) M fun d M' => joinD (Str.ofString " ") d M' Q := by
  have h1 : (lineL w m xs).length ≤ w.length + xs.length * 3 + 1 := line_len ht
  have h2 := items_sum (m := m) ht
  refine ⟨by simp [wordsD]; omega, (w :: xs.map (itemL m)).map S, by simp [wordsD], ?_, ?_⟩
  · rw [lens_S, show (Str.ofString " ").length = 1 by decide +kernel]
    simp only [List.map_cons, List.sum_cons, List.length_cons, List.length_map]
    omega
  · rw [join_sp]; exact q
theorem row_loop {G W T : D} {M0 : Mu} {a : Addr} {E : DEnds} : ∀ (rows : List (List D)) (acc : List D) (o4 : Option D), (∀ r ∈ rows, (∀ t ∈ r, toll t) ∧ r.length ≤ 8) → acc.length + rows.length ≤ 1000 → (∀ o4, E.nx [some G, some W, some T, some (.ref a), o4, none, none, none, none] (setM M0 a (.lst (acc ++ rows.map fun r => .str (S (lineL cRow 46 r)))))) →
    fori (gNm 4) t__law_chart_text_1 (rows.map (.lst 0)) E [some G, some W, some T, some (.ref a), o4, none, none, none, none] (setM M0 a (.lst acc))
  | [], acc, o4, _, _, q => x_nil (by simpa using q o4)
  | r :: rows, acc, o4, ht, hl, q => by
    simp only [List.length_cons] at hl
    have ih := row_loop (G := G) (W := W) (T := T) (M0 := M0) (a := a) (E := E) rows (acc ++ [.str (S (lineL cRow 46 r))]) (some (.lst 0 r)) (fun x hx => ht x (List.mem_cons_of_mem _ hx)) (by simp; omega) (fun o4 => by simpa using q o4)
    refine x_cons ?_
    obtain ⟨h1, h2⟩ := ht r List.mem_cons_self
    simp only [gNm, t__law_chart_text_1, dDrop, dApp, dVar, dM1, dC, dOp, dLst, dCons, dNil, List.set_cons_succ, List.set_cons_zero]
    simp only [List.getElem?_cons_succ, List.getElem?_cons_zero, setM_same]
    refine ⟨by simp, ?_⟩
    refine compi_map (f := fun t => .str (S (itemL 46 t))) r _ _ (fun t hx Q' h' => ?_) (by simp; omega) ?_
    · rcases h1 t hx with rfl | ⟨i, rfl, h0, h1⟩
      · simp [DL.isNon, wipeD]
        exact h'
      · simp [DL.isNon, wipeD]
        exact ⟨log_ok h0 h1, by rw [itS_rep i h0]; exact h'⟩
    · rw [List.nil_append]
      refine line_join (w := cRow) h1 h2 (by decide) ?_
      simp only [setM_same, setM_set]
      exact ⟨by omega, ih⟩
theorem wind_loop {G W T : D} {M0 : Mu} {a : Addr} {E : DEnds} {o4 : Option D} : ∀ (rows : List (List D)) (acc : List D) (o6 : Option D), (∀ r ∈ rows, (∀ t ∈ r, toll t) ∧ r.length ≤ 8) → acc.length + rows.length ≤ 1000 → (∀ o6, E.nx [some G, some W, some T, some (.ref a), o4, none, o6, none, none] (setM M0 a (.lst (acc ++ rows.map fun r => .str (S (lineL cWind 45 r)))))) →
    fori (gNm 6) t__law_chart_text_2 (rows.map .tup) E [some G, some W, some T, some (.ref a), o4, none, o6, none, none] (setM M0 a (.lst acc))
  | [], acc, o6, _, _, q => x_nil (by simpa using q o6)
  | r :: rows, acc, o6, ht, hl, q => by
    simp only [List.length_cons] at hl
    have ih := wind_loop (G := G) (W := W) (T := T) (M0 := M0) (a := a) (E := E) (o4 := o4) rows (acc ++ [.str (S (lineL cWind 45 r))]) (some (.tup r)) (fun x hx => ht x (List.mem_cons_of_mem _ hx)) (by simp; omega) (fun o4 => by simpa using q o4)
    refine x_cons ?_
    obtain ⟨h1, h2⟩ := ht r List.mem_cons_self
    simp only [gNm, t__law_chart_text_2, dDrop, dApp, dVar, dM1, dC, dOp, dLst, dCons, dNil, List.set_cons_succ, List.set_cons_zero]
    simp only [List.getElem?_cons_succ, List.getElem?_cons_zero, setM_same]
    refine ⟨by simp, ?_⟩
    refine compi_map (f := fun t => .str (S (itemL 45 t))) r _ _ (fun t hx Q' h' => ?_) (by simp; omega) ?_
    · rcases h1 t hx with rfl | ⟨i, rfl, h0, h1⟩
      · simp [DL.isNon, wipeD]
        exact h'
      · simp [DL.isNon, wipeD]
        exact ⟨log_ok h0 h1, by rw [itS_rep i h0]; exact h'⟩
    · rw [List.nil_append]
      refine line_join (w := cWind) h1 h2 (by decide) ?_
      simp only [setM_same, setM_set]
      exact ⟨by omega, ih⟩
theorem pure__law_chart_text : ∀ ds M Q E, sp__law_chart_text ds M Q E → ds.length = (["_law_ground", "_law_gusts", "_law_roof_here"] : List Str).length ∧ t__law_chart_text { nx := fun _ M' => Q .non M', rt := Q } (startD ["_law_ground", "_law_gusts", "_law_roof_here", "_law_lines", "_law_items", "_law_item", "_law_gust_here", "_law_cost", "_law_one"] ds) M := by
  rintro ds M Q E ⟨rows, winds, top, rfl, g, q⟩
  refine ⟨rfl, ?_⟩
  have t0 : 0 ≤ top := by have := g.t0; omega
  have hn := num_len g.top_nat.1
  simp [t__law_chart_text]
  rw [itS_rep top t0, show Str.ofString "chart " ++ S (TL.numL top.toNat) = S (topL top.toNat) from SX.S_cat [99, 104, 97, 114, 116, 32] _]
  refine ⟨log_ok t0 g.t1, ?_, fun a ha => ?_⟩
  · rw [show (Str.ofString "chart ").length = 6 by decide +kernel, S_len]; omega
  simp only [t__law_chart_text_5, dSeq, dFor, dIt, dVar]
  refine row_loop rows _ none (fun r hr => ⟨g.r.tl r hr, by have := g.row_len hr; omega⟩) (by simp; have := g.r.hi; omega) fun o4 => ?_
  simp only [t__law_chart_text_4, dSeq, dFor, dIt, dVar]
  refine wind_loop winds _ none (fun r hr => ⟨(g.wg r hr).2, by have := (g.wg r hr).1; omega⟩) (by simp; have := g.r.hi; have := g.wn; omega) fun o6 => ?_
  simp only [t__law_chart_text_3, dRet, dM1, dC, dLc, dIt, dOp, dFz, dVar]
  simp only [List.getElem?_cons_succ, List.getElem?_cons_zero]
  refine fz_new (M0 := M) ((Ex.refl M).set ha) ?_
  rw [rs_lstO (n := 8) ha setM_same]
  have e : ([D.str (S (topL top.toNat))] ++ rows.map (fun r => D.str (S (lineL cRow 46 r))) ++ winds.map (fun r => D.str (S (lineL cWind 45 r)))).map (rs (setM M a (.lst ([D.str (S (topL top.toNat))] ++ rows.map (fun r => D.str (S (lineL cRow 46 r))) ++ winds.map (fun r => D.str (S (lineL cWind 45 r)))))) (newIn M) 8) = ((topL top.toNat :: (rows.map (lineL cRow 46) ++ winds.map (lineL cWind 45))).map S).map D.str := by
    simp [List.map_map, Function.comp_def]
  rw [e]
  simp only [dLst, dCons, dNil, dC, addD]
  have hr := g.r.hi
  have hw := g.wn
  refine ⟨by simp, by simp; omega, ?_⟩
  have e2 : ((topL top.toNat :: (rows.map (lineL cRow 46) ++ winds.map (lineL cWind 45))).map S).map D.str ++ [D.str (Str.ofString "end")] = (linesL rows winds top.toNat).map fun l => D.str (S l) := by
    simp [linesL, List.map_map, Function.comp_def]
    rfl
  rw [e2]
  refine compi_of (f := fun l => .str (S (l ++ [10]))) _ _ _ (fun l hl Q' h' => ?_) (by rw [g.lines_n]; simp; omega) ?_
  · simp [wipeD]
    rw [show S l ++ Str.ofString "\n" = S (l ++ [10]) from SX.S_cat _ [10]]
    refine ⟨?_, h'⟩
    have := g.lines_le (l ++ [10]) (List.mem_map_of_mem hl)
    rw [S_len, show (Str.ofString "\n").length = 1 by decide +kernel]
    simp at this; omega
  · refine ⟨((linesL rows winds top.toNat).map (· ++ [10])).map S, by simp [List.map_map, Function.comp_def], ?_, ?_⟩
    · rw [lens_S, ← List.length_flatten, show (Str.ofString "").length = 0 by decide +kernel]
      have := g.chart_len
      unfold chartL at this
      omega
    · rw [join_0]; exact q
end HS
/-! Shared by the laws of charts: charts that are refused, what each def promises. -/
namespace HS
open PySem L2 DL
def fl_InvalidChart : List (Str × (Sum Str Nat)) := [("column", .inr 1), ("row", .inr 0), ("code", .inl "InvalidChart")]
def fl_InvalidWind : List (Str × (Sum Str Nat)) := [("at", .inr 0), ("code", .inl "InvalidWind")]
def fl_InvalidTop : List (Str × (Sum Str Nat)) := [("value", .inr 0), ("code", .inl "InvalidTop")]
def colErr : Nat → List D → Option Nat
  | _, [] => none
  | k, t :: ts => if isToll t then colErr (k + 1) ts else some k
def rowErr (w : Nat) (row : D) : Option Int := match seq row with
  | some xs => if 1 ≤ xs.length ∧ xs.length ≤ 6 ∧ xs.length = w then (colErr 0 xs).map Int.ofNat else some (-1)
  | none => some (-1)
def rowsErr1 (w : Nat) : Nat → List D → Option (Int × Int)
  | _, [] => none
  | k, r :: rs => match rowErr w r with
    | some c => some (k, c)
    | none => rowsErr1 w (k + 1) rs
def wid : List D → Nat
  | r :: _ => (match seq r with | some xs => xs.length | none => 0)
  | [] => 0
def waterR (r : D) : Bool := match seq r with | some xs => xs.any fun t => !isNon t | none => false
def rowsErr (v : D) : Option (Int × Int) := match seq v with
  | some rs => if 1 ≤ rs.length ∧ rs.length ≤ 6 then (match rowsErr1 (wid rs) 0 rs with | some e => some e | none => if rs.any waterR then none else some (-1, -1)) else some (-1, -1)
  | none => some (-1, -1)
def windErr1 : Nat → List D → Option Nat
  | _, [] => none
  | k, g :: gs => if isWind g then windErr1 (k + 1) gs else some k
def windsErr (v : D) : Option Int := match seq v with
  | some ws => if ws.length ≤ 8 then (windErr1 0 ws).map Int.ofNat else some (-1)
  | none => some (-1)
def fit (v : D) : Prop := ty v ∧ ∀ xs, seq v = some xs → tys xs
def fitG (v : D) : Prop := ty v ∧ ∀ rs, seq v = some rs → rs.length ≤ 1000 ∧ ∀ r ∈ rs, fit r
abbrev fitW := fitG
def sp_is_listed : DSp := fun ds M Q _ => ∃ v lo hi, ds = [v, .int lo, .int hi] ∧ ty v ∧ Q (.bl (match seq v with | some xs => decide (lo ≤ (xs.length : Int)) && decide ((xs.length : Int) ≤ hi) | none => false)) M
def eChart (r c : Int) : List (Str × D) := mkF D.str .non fl_InvalidChart [.int r, .int c]
def eWind (k : Int) : List (Str × D) := mkF D.str .non fl_InvalidWind [.int k]
def eTop (t : D) : List (Str × D) := mkF D.str .non fl_InvalidTop [t]
def sp_check_rows : DSp := fun ds M Q E => ∃ v, ds = [v] ∧ fitG v ∧ (rowsErr v = none → Q .non M) ∧ ∀ r c, rowsErr v = some (r, c) → E "InvalidChart" (eChart r c) M
def sp_check_winds : DSp := fun ds M Q E => ∃ v, ds = [v] ∧ fitW v ∧ (windsErr v = none → Q .non M) ∧ ∀ k, windsErr v = some k → E "InvalidWind" (eWind k) M
def partsOf (g w t : D) (rows winds : List (List D)) (top : Int) : Prop := rowsOf g rows ∧ seq w = some (winds.map .tup) ∧ t = .int top ∧ Gd rows winds top
def sp_Chart___init__ : DSp := fun ds M Q E => ∃ a g w t, ds = [.ref a, g, w, t] ∧ M a = some (.ins "Chart" []) ∧ fitG g ∧ fitW w ∧ ty t ∧
  (∀ r c, rowsErr g = some (r, c) → E "InvalidChart" (eChart r c) M) ∧
  (rowsErr g = none → ∀ k, windsErr w = some k → E "InvalidWind" (eWind k) M) ∧
  (rowsErr g = none → windsErr w = none → isNum t 1 99 = false → E "InvalidTop" (eTop t) M) ∧
  (rowsErr g = none → windsErr w = none → isNum t 1 99 = true → ∀ rows winds top, partsOf g w t rows winds top →
    ∀ M' b kvs, b ≠ a → M b = none → M' a = some (.ins "Chart" (chartF rows winds top (.ref b))) → M' b = some (.dT kvs) → (∀ p ∈ kvs, toll p.2) → (∀ x, x ≠ a → x ≠ b → M' x = M x) → Q .non M')
end HS
/-! Shared by the laws of charts: charts that are refused, readings. Printed by a program of mine. -/
namespace HS
open PySem L2 DL
def t_is_listed : DS := (dRet (dAndV (dCB isiD (dCons (dVar 0) (dCons (dTup (dCons (dC (.ty "list")) (dCons (dC (.ty "tuple")) dNil))) dNil))) (dChain leD leD (dVar 1) (dCB lenD (dCons (dVar 0) dNil)) (dVar 2))))
def t_check_rows_1 (E : DXK) : DS := (dIfS (dAnd (dB (dOp notND (dVar 4) (dC .non))) (dNot (dB (dCall sp_is_number DX0 (dCons (dVar 4) (dCons (dC (.int 0)) (dCons (dC (.int 99)) dNil))))))) (dRaise E "InvalidChart" 2 fl_InvalidChart (dCons (dVar 1) (dCons (dVar 3) dNil))) dNext)
def t_check_rows_2 (E : DXK) : DS := (dFor (dEnT (dCons (dVar 2) dNil)) (gTp (gsCons (gNm 3) (gsCons (gNm 4) gsNil)) 2) (t_check_rows_1 E))
def t_check_rows_3 (E : DXK) : DS := (dSeq (dIfS (dOr (dNot (dB (dCall sp_is_listed DX0 (dCons (dVar 2) (dCons (dC (.int 1)) (dCons (dC (.int 6)) dNil)))))) (dB (dOp neD (dCB lenD (dCons (dVar 2) dNil)) (dCB lenD (dCons (dOp ixE (dVar 0) (dC (.int 0))) dNil))))) (dRaise E "InvalidChart" 2 fl_InvalidChart (dCons (dVar 1) (dCons (dNeg (dC (.int 1))) dNil))) dNext) (t_check_rows_2 E))
def t_check_rows_4 (E : DXK) : DS := (dIfS (dNot (dB (dCall sp_has_water DX0 (dCons (dVar 0) dNil)))) (dRaise E "InvalidChart" 2 fl_InvalidChart (dCons (dNeg (dC (.int 1))) (dCons (dNeg (dC (.int 1))) dNil))) dNext)
def t_check_rows_5 (E : DXK) : DS := (dSeq (dFor (dEnT (dCons (dVar 0) dNil)) (gTp (gsCons (gNm 1) (gsCons (gNm 2) gsNil)) 2) (t_check_rows_3 E)) (t_check_rows_4 E))
def t_check_rows (E : DXK) : DS := (dSeq (dIfS (dNot (dB (dCall sp_is_listed DX0 (dCons (dVar 0) (dCons (dC (.int 1)) (dCons (dC (.int 6)) dNil)))))) (dRaise E "InvalidChart" 2 fl_InvalidChart (dCons (dNeg (dC (.int 1))) (dCons (dNeg (dC (.int 1))) dNil))) dNext) (t_check_rows_5 E))
def t_check_winds_1 (E : DXK) : DS := (dIfS (dNot (dB (dCall sp_is_wind DX0 (dCons (dVar 2) dNil)))) (dRaise E "InvalidWind" 1 fl_InvalidWind (dCons (dVar 1) dNil)) dNext)
def t_check_winds_2 (E : DXK) : DS := (dFor (dEnT (dCons (dVar 0) dNil)) (gTp (gsCons (gNm 1) (gsCons (gNm 2) gsNil)) 2) (t_check_winds_1 E))
def t_check_winds (E : DXK) : DS := (dSeq (dIfS (dNot (dB (dCall sp_is_listed DX0 (dCons (dVar 0) (dCons (dC (.int 0)) (dCons (dC (.int 8)) dNil)))))) (dRaise E "InvalidWind" 1 fl_InvalidWind (dCons (dNeg (dC (.int 1))) dNil)) dNext) (t_check_winds_2 E))
def t_Chart___init___1 (E : DXK) : DS := (dIfS (dB (dOp notND (dVar 7) (dC .non))) (dAsg (dVar 7) (gIxP (dFld "Chart" "drags" (dVar 0)) (dCons (dVar 4) (dCons (dVar 6) dNil)))) dNext)
def t_Chart___init___2 (E : DXK) : DS := (dFor (dEnT (dCons (dVar 5) dNil)) (gTp (gsCons (gNm 6) (gsCons (gNm 7) gsNil)) 2) (t_Chart___init___1 E))
def t_Chart___init___3 (E : DXK) : DS := (dFor (dEnT (dCons (dFld "Chart" "held_rows" (dVar 0)) dNil)) (gTp (gsCons (gNm 4) (gsCons (gNm 5) gsNil)) 2) (t_Chart___init___2 E))
def t_Chart___init___4 (E : DXK) : DS := (dSeq (dSetF "Chart" "drags" (dVar 0) dDictT) (t_Chart___init___3 E))
def t_Chart___init___5 (E : DXK) : DS := (dSeq (dSetF "Chart" "held_winds" (dVar 0) (dCB lstD (dCons (dVar 2) dNil))) (t_Chart___init___4 E))
def t_Chart___init___6 (E : DXK) : DS := (dSeq (dSetF "Chart" "held_rows" (dVar 0) (dLc (dIt (dVar 1)) (gNm 4) dYes (dCB lstD (dCons (dVar 4) dNil)) [4])) (t_Chart___init___5 E))
def t_Chart___init___7 (E : DXK) : DS := (dSeq (dSetF "Chart" "last" (dVar 0) (dCB lenD (dCons (dVar 2) dNil))) (t_Chart___init___6 E))
def t_Chart___init___8 (E : DXK) : DS := (dSeq (dSetF "Chart" "top" (dVar 0) (dVar 3)) (t_Chart___init___7 E))
def t_Chart___init___9 (E : DXK) : DS := (dSeq (dIfS (dNot (dB (dCall sp_is_number DX0 (dCons (dVar 3) (dCons (dC (.int 1)) (dCons (dC (.int 99)) dNil)))))) (dRaise E "InvalidTop" 1 fl_InvalidTop (dCons (dVar 3) dNil)) dNext) (t_Chart___init___8 E))
def t_Chart___init___10 (E : DXK) : DS := (dSeq (dDrop (dCall sp_check_winds E (dCons (dVar 2) dNil))) (t_Chart___init___9 E))
def t_Chart___init__ (E : DXK) : DS := (dSeq (dDrop (dCall sp_check_rows E (dCons (dVar 1) dNil))) (t_Chart___init___10 E))
end HS
/-! Shared by the laws of charts: charts that are refused, the defs keep their promises, over data. -/
namespace HS
open PySem L2 DL
theorem pure_is_listed : ∀ ds M Q E, sp_is_listed ds M Q E → ds.length = (["value", "least", "most"] : List Str).length ∧ t_is_listed { nx := fun _ M' => Q .non M', rt := Q } (startD ["value", "least", "most"] ds) M := by
  rintro ds M Q E ⟨v, lo, hi, rfl, hty, q⟩
  refine ⟨rfl, ?_⟩
  cases v <;> first | (cases (show false = true from hty); done) | skip
  all_goals simp [t_is_listed, inst, tyN, isA, tyNames, tysOf]
  all_goals simp [seq] at q
  all_goals first | exact q | skip
  all_goals rename_i xs
  all_goals by_cases h : lo ≤ (xs.length : Int)
  all_goals simp [h] at q ⊢
  all_goals exact q
theorem fit.one {v : D} (h : fit v) : ty1 v := ⟨h.1, fun xs e => h.2 xs (by rw [e]; rfl)⟩
theorem winds_loop {v : D} {M : Mu} {E : DXK} {Z : DEnds} : ∀ (ws : List D) (k : Nat) (o1 o2 : Option D), (∀ x ∈ ws, fit x) → (windErr1 k ws = none → ∀ o1 o2, Z.nx [some v, o1, o2] M) → (∀ j : Nat, windErr1 k ws = some j → E "InvalidWind" (eWind j) M) →
    fori (gTp (gsCons (gNm 1) (gsCons (gNm 2) gsNil)) 2) (t_check_winds_1 E) (enumD k ws) Z [some v, o1, o2] M
  | [], k, o1, o2, _, q, _ => q rfl o1 o2
  | x :: ws, k, o1, o2, h, q, qe => by
    have hx := h x List.mem_cons_self
    simp [enumD, fori, t_check_winds_1]
    refine ⟨x, rfl, hx.one, ?_⟩
    cases e : isWind x with
    | true =>
      simp
      exact winds_loop ws (k + 1) _ _ (fun y hy => h y (List.mem_cons_of_mem _ hy)) (fun z => q (by simp [windErr1, e, z])) (fun j z => qe j (by simp [windErr1, e, z]))
    | false =>
      simp
      exact qe k (by simp [windErr1, e])
theorem pure_check_winds : ∀ ds M Q E, sp_check_winds ds M Q E → ds.length = (["winds"] : List Str).length ∧ t_check_winds E { nx := fun _ M' => Q .non M', rt := Q } (startD ["winds", "at", "wind"] ds) M := by
  rintro ds M Q E ⟨v, rfl, hf, q, qe⟩
  refine ⟨rfl, ?_⟩
  simp only [t_check_winds, dSeq, dIfS, dNot, dB, dCall, dCons, dNil, dVar, dC, startD, List.getElem?_cons_zero, List.map_cons]
  refine ⟨v, 0, 8, rfl, hf.1, ?_⟩
  cases e : seq v with
  | none => simp; exact qe (-1) (by simp [windsErr, e])
  | some ws =>
    obtain ⟨hl, hx⟩ := hf.2 ws e
    by_cases h8 : ws.length ≤ 8
    · simp [h8, show (ws.length : Int) ≤ 8 by omega]
      have key := winds_loop (v := v) (M := M) (E := E) (Z := { nx := fun _ M' => Q .non M', rt := Q }) ws 0 none none hx (fun z _ _ => q (by simp [windsErr, e, h8, z])) (fun j z => qe j (by simp [windsErr, e, h8, z]))
      rcases seq_len e with ⟨r, rfl⟩ | rfl
      · exact key
      · exact key
    · simp [show ¬ (ws.length : Int) ≤ 8 by omega]
      exact qe (-1) (by simp [windsErr, e, h8])
theorem cols_loop {v r : D} {M : Mu} {E : DXK} {Z : DEnds} {i : Int} : ∀ (xs : List D) (k : Nat) (o3 o4 : Option D), (∀ x ∈ xs, ty x) → (colErr k xs = none → ∀ o3 o4, Z.nx [some v, some (.int i), some r, o3, o4] M) → (∀ j : Nat, colErr k xs = some j → E "InvalidChart" (eChart i j) M) →
    fori (gTp (gsCons (gNm 3) (gsCons (gNm 4) gsNil)) 2) (t_check_rows_1 E) (enumD k xs) Z [some v, some (.int i), some r, o3, o4] M
  | [], k, o3, o4, _, q, _ => q rfl o3 o4
  | x :: xs, k, o3, o4, h, q, qe => by
    have hx := h x List.mem_cons_self
    have go : isToll x = true → fori (gTp (gsCons (gNm 3) (gsCons (gNm 4) gsNil)) 2) (t_check_rows_1 E) (enumD (k + 1) xs) Z [some v, some (.int i), some r, some (.int k), some x] M := fun e =>
      cols_loop xs (k + 1) _ _ (fun y hy => h y (List.mem_cons_of_mem _ hy)) (fun z => q (by simp [colErr, e, z])) (fun j z => qe j (by simp [colErr, e, z]))
    simp [enumD, fori, t_check_rows_1]
    cases e : DL.isNon x with
    | true =>
      simp
      exact go (by simp [isToll, e])
    | false =>
      simp
      refine ⟨x, 0, 99, rfl, hx, ?_⟩
      cases e2 : isNum x 0 99 with
      | true => simp; exact go (by simp [isToll, e2])
      | false => simp; exact qe k (by simp [colErr, isToll, e, e2])
theorem len_ne {v r r0 : D} {rs0 xs xs0 : List D} {ρ : DEnv} {M : Mu} {Q : DK} (hv : seq v = some rs0) (h0 : rs0[0]? = some r0) (hr : seq r = some xs) (hr0 : seq r0 = some xs0) (e0 : ρ[0]? = some (some v)) (e2 : ρ[2]? = some (some r)) (q : Q (.bl (!decide (xs.length = xs0.length))) M) :
    dOp neD (dCB lenD (dCons (dVar 2) dNil)) (dCB lenD (dCons (dOp ixE (dVar 0) (dC (.int 0))) dNil)) ρ M Q := by
  obtain ⟨l, rfl⟩ : ∃ l, rs0 = r0 :: l := by cases rs0 with | nil => cases h0 | cons a l => simp at h0; subst h0; exact ⟨l, rfl⟩
  have eb : ((xs.length : Int) == (xs0.length : Int)) = decide (xs.length = xs0.length) := by rw [Bool.eq_iff_iff]; simp; omega
  rcases seq_len hv with ⟨_, rfl⟩ | rfl <;> rcases seq_len hr with ⟨_, rfl⟩ | rfl <;> rcases seq_len hr0 with ⟨_, rfl⟩ | rfl <;> simp [e0, e2, dctT, atI, ixN] <;> rw [eb] <;> exact q
theorem wid_eq {rs0 xs0 : List D} {r0 : D} (h0 : rs0[0]? = some r0) (hr0 : seq r0 = some xs0) : wid rs0 = xs0.length := by
  cases rs0 with
  | nil => cases h0
  | cons a l => simp at h0; subst h0; simp [wid, hr0]
theorem rows_loop {v : D} {rs0 : List D} {M : Mu} {E : DXK} {Z : DEnds} (hv : seq v = some rs0) : ∀ (rs : List D) (k : Nat) (o1 o2 o3 o4 : Option D), rs0.drop k = rs → (k = 0 ∨ ∃ r0 xs0, rs0[0]? = some r0 ∧ seq r0 = some xs0) → (∀ x ∈ rs, fit x) →
    (rowsErr1 (wid rs0) k rs = none → ∀ o1 o2 o3 o4, Z.nx [some v, o1, o2, o3, o4] M) → (∀ i j, rowsErr1 (wid rs0) k rs = some (i, j) → E "InvalidChart" (eChart i j) M) →
    fori (gTp (gsCons (gNm 1) (gsCons (gNm 2) gsNil)) 2) (t_check_rows_3 E) (enumD k rs) Z [some v, o1, o2, o3, o4] M
  | [], k, o1, o2, o3, o4, _, _, _, q, _ => q rfl o1 o2 o3 o4
  | r :: rs, k, o1, o2, o3, o4, hd, h0, hf, q, qe => by
    have hr := hf r List.mem_cons_self
    have hk : rs0[k]? = some r := by
      have := congrArg (fun l => l[0]?) hd
      simpa using this
    have hd' : rs0.drop (k + 1) = rs := by rw [← List.drop_drop, hd]; rfl
    simp only [enumD, fori]
    refine ⟨rfl, ?_⟩
    show t_check_rows_3 E _ [some v, some (.int k), some r, o3, o4] M
    simp only [t_check_rows_3, dSeq, dIfS, dOr, dNot, dB, dCall, dCons, dNil, dVar, dC, List.getElem?_cons_succ, List.getElem?_cons_zero]
    refine ⟨r, 1, 6, rfl, hr.1, ?_⟩
    cases e : seq r with
    | none =>
      simp
      exact qe k (-1) (by simp [rowsErr1, rowErr, e])
    | some xs =>
      obtain ⟨r0, xs0, e0, es0⟩ : ∃ r0 xs0, rs0[0]? = some r0 ∧ seq r0 = some xs0 := by
        rcases h0 with rfl | h0
        · exact ⟨r, xs, hk, e⟩
        · exact h0
      have ew := wid_eq e0 es0
      by_cases h16 : 1 ≤ xs.length ∧ xs.length ≤ 6
      · simp only [show (1 : Int) ≤ (xs.length : Int) by omega, show (xs.length : Int) ≤ 6 by omega, decide_true, Bool.and_true, isB, Bool.not_true, Bool.false_eq_true, if_false]
        refine len_ne hv e0 e es0 rfl rfl ?_
        by_cases hw : xs.length = xs0.length
        · simp only [hw, decide_true, Bool.not_true, isB, Bool.false_eq_true, if_false, dNext]
          have hrow : rowErr (wid rs0) r = (colErr 0 xs).map Int.ofNat := by simp only [rowErr, e]; rw [if_pos ⟨h16.1, h16.2, by omega⟩]
          have key := cols_loop (v := v) (r := r) (M := M) (E := E) (i := (k : Int)) (Z := { nx := fori (gTp (gsCons (gNm 1) (gsCons (gNm 2) gsNil)) 2) (t_check_rows_3 E) (enumD (k + 1) rs) Z, rt := Z.rt, bk := Z.nx, ct := fori (gTp (gsCons (gNm 1) (gsCons (gNm 2) gsNil)) 2) (t_check_rows_3 E) (enumD (k + 1) rs) Z }) xs 0 o3 o4 (hr.2 xs e).2
            (fun z o3 o4 => rows_loop hv rs (k + 1) _ _ o3 o4 hd' (.inr ⟨r0, xs0, e0, es0⟩) (fun y hy => hf y (List.mem_cons_of_mem _ hy)) (fun z2 => q (by simp only [rowsErr1, hrow, z, Option.map_none]; exact z2)) (fun i j z2 => qe i j (by simp only [rowsErr1, hrow, z, Option.map_none]; exact z2)))
            (fun j z => qe k j (by simp only [rowsErr1, hrow, z, Option.map_some]; rfl))
          rcases seq_len e with ⟨_, rfl⟩ | rfl
          · exact key
          · exact key
        · simp [hw]
          exact qe k (-1) (by simp [rowsErr1, rowErr, e, ew, hw])
      · have hb : (decide ((1 : Int) ≤ (xs.length : Int)) && decide ((xs.length : Int) ≤ 6)) = false := by
          rw [Bool.and_eq_false_iff]; simp only [decide_eq_false_iff_not]; omega
        simp only [hb, isB, Bool.not_false, if_true]
        simp
        refine qe k (-1) ?_
        have hn : ¬ (1 ≤ xs.length ∧ xs.length ≤ 6 ∧ xs.length = wid rs0) := fun z => h16 ⟨z.1, z.2.1⟩
        simp only [rowsErr1, rowErr, e, if_neg hn]
theorem row_ok {w : Nat} {r : D} (h : rowErr w r = none) : ∃ xs, seq r = some xs ∧ 1 ≤ xs.length ∧ xs.length ≤ 6 ∧ xs.length = w ∧ colErr 0 xs = none := by
  unfold rowErr at h
  cases e : seq r with
  | none => rw [e] at h; cases h
  | some xs =>
    rw [e] at h
    simp only at h
    split at h
    · rename_i z
      exact ⟨xs, rfl, z.1, z.2.1, z.2.2, by simpa using h⟩
    · cases h
theorem rows_ok {w : Nat} : ∀ {rs : List D} {k : Nat}, rowsErr1 w k rs = none → ∀ r ∈ rs, rowErr w r = none
  | [], _, _, r, h => by cases h
  | x :: rs, k, e, r, h => by
    unfold rowsErr1 at e
    cases ex : rowErr w x with
    | some c => rw [ex] at e; cases e
    | none =>
      rw [ex] at e
      rcases List.mem_cons.mp h with rfl | h
      · exact ex
      · exact rows_ok e r h
theorem rows_lists {w : Nat} : ∀ {rs : List D}, (∀ r ∈ rs, rowErr w r = none) → ∃ rows : List (List D), rs.map seq = rows.map some ∧ ∀ x ∈ rows, 1 ≤ x.length ∧ x.length ≤ 6 ∧ x.length = w ∧ colErr 0 x = none
  | [], _ => ⟨[], rfl, by simp⟩
  | r :: rs, h => by
    obtain ⟨xs, e, h1⟩ := row_ok (h r List.mem_cons_self)
    obtain ⟨rows, er, hr⟩ := rows_lists fun x hx => h x (List.mem_cons_of_mem _ hx)
    exact ⟨xs :: rows, by simp [e, er], fun x hx => by rcases List.mem_cons.mp hx with rfl | hx; exact h1; exact hr x hx⟩
theorem water_eq : ∀ {rs : List D} {rows : List (List D)}, rs.map seq = rows.map some → rs.any waterR = water rows
  | [], [], _ => rfl
  | [], _ :: _, h => by cases h
  | _ :: _, [], h => by cases h
  | r :: rs, x :: rows, h => by
    simp only [List.map_cons, List.cons.injEq] at h
    have := water_eq h.2
    simp [waterR, h.1, this, water]
theorem pure_check_rows : ∀ ds M Q E, sp_check_rows ds M Q E → ds.length = (["rows"] : List Str).length ∧ t_check_rows E { nx := fun _ M' => Q .non M', rt := Q } (startD ["rows", "at", "row", "column", "drag"] ds) M := by
  rintro ds M Q E ⟨v, rfl, hf, q, qe⟩
  refine ⟨rfl, ?_⟩
  show t_check_rows E _ [some v, none, none, none, none] M
  simp only [t_check_rows, dSeq, dIfS, dNot, dB, dCall, dCons, dNil, dVar, dC, List.getElem?_cons_zero]
  refine ⟨v, 1, 6, rfl, hf.1, ?_⟩
  cases e : seq v with
  | none => simp; exact qe (-1) (-1) (by simp [rowsErr, e])
  | some rs =>
    obtain ⟨hl, hx⟩ := hf.2 rs e
    by_cases h16 : 1 ≤ rs.length ∧ rs.length ≤ 6
    · simp only [show (1 : Int) ≤ (rs.length : Int) by omega, show (rs.length : Int) ≤ 6 by omega, decide_true, Bool.and_true, isB, Bool.not_true, Bool.false_eq_true, if_false, dNext]
      have key := rows_loop (v := v) (M := M) (E := E) (Z := { nx := t_check_rows_4 E { nx := fun _ M' => Q .non M', rt := Q }, rt := Q }) e rs 0 none none none none rfl (.inl rfl) hx
        (fun z o1 o2 o3 o4 => by
          obtain ⟨rows, er, hr⟩ := rows_lists (rows_ok z)
          have hlen : rows.length = rs.length := by have := congrArg List.length er; simpa using this.symm
          simp only [t_check_rows_4, dIfS, dNot, dB, dCall, dCons, dNil, dVar, List.getElem?_cons_zero]
          refine ⟨v, rows, rfl, ⟨rs, e, er⟩, by omega, fun x hx => by have := (hr x hx).2.1; omega, ?_⟩
          have ew := water_eq er
          cases hw : water rows with
          | true => simp; exact q (by simp [rowsErr, e, h16, z, ew, hw])
          | false => simp; exact qe (-1) (-1) (by simp [rowsErr, e, h16, z, ew, hw]))
        (fun i j z => qe i j (by simp [rowsErr, e, h16, z]))
      rcases seq_len e with ⟨_, rfl⟩ | rfl
      · exact key
      · exact key
    · have hb : (decide ((1 : Int) ≤ (rs.length : Int)) && decide ((rs.length : Int) ≤ 6)) = false := by
        rw [Bool.and_eq_false_iff]; simp only [decide_eq_false_iff_not]; omega
      simp only [hb, isB, Bool.not_false, if_true]
      simp
      exact qe (-1) (-1) (by simp only [rowsErr, e, if_neg h16])
theorem rng_succ (lo : Int) (n : Nat) : rngD lo (n + 1) = .int lo :: rngD (lo + 1) n := by
  unfold rngD
  rw [List.range_succ_eq_map]
  simp only [List.map_cons, List.map_map]
  congr 1
  · simp
  · refine List.map_congr_left fun i _ => ?_
    simp only [Function.comp_def, Nat.succ_eq_add_one]
    congr 1; omega
theorem rng_zero (lo : Int) : rngD lo 0 = [] := rfl
theorem atI_get {xs : List D} {m : Nat} {r : D} (h : xs[m]? = some r) : atI xs (m : Int) = some r := by
  obtain ⟨h1, h2⟩ := List.getElem?_eq_some_iff.mp h
  rw [atI_nat h1, h2]
theorem ix_seq {v r : D} {rs : List D} {m : Nat} {M : Mu} {Q : DK} (hv : seq v = some rs) (h : rs[m]? = some r) (q : Q r M) : ixE v (.int m) M Q := by
  have := atI_get h
  rcases seq_len hv with ⟨_, rfl⟩ | rfl <;> simp [dctT, this] <;> exact q
theorem len_seq {v : D} {rs : List D} {M : Mu} {Q : DK} (hv : seq v = some rs) (q : Q (.int rs.length) M) : lenD [v] M Q := by
  rcases seq_len hv with ⟨_, rfl⟩ | rfl <;> exact q
theorem isi_lt {v : D} {M : Mu} {Q : DK} (hv : ty v) (q : Q (.bl (seq v).isSome) M) : isiD [v, .tup [.ty "list", .ty "tuple"]] M Q := by
  cases v <;> first | (cases (show false = true from hv); done) | skip
  all_goals simp [inst, tyN, isA, tyNames, tysOf]
  all_goals simpa [seq] using q
theorem toll_of {t : D} (h : isToll t = true) : toll t := by
  cases t <;> simp [isToll, DL.isNon, isNum] at h
  · exact .inl rfl
  · exact .inr ⟨_, rfl, h.1, h.2⟩
theorem col_ok : ∀ {xs : List D} {k : Nat}, colErr k xs = none → ∀ t ∈ xs, toll t
  | [], _, _, t, h => by cases h
  | x :: xs, k, e, t, h => by
    unfold colErr at e
    split at e
    · rename_i hx
      rcases List.mem_cons.mp h with rfl | h
      · exact toll_of hx
      · exact col_ok e t h
    · cases e
theorem wind_ok : ∀ {ws : List D} {k : Nat}, windErr1 k ws = none → ∀ x ∈ ws, ∃ ts, gust ts ∧ x = .tup ts
  | [], _, _, t, h => by cases h
  | x :: ws, k, e, t, h => by
    unfold windErr1 at e
    split at e
    · rename_i hx
      rcases List.mem_cons.mp h with rfl | h
      · cases t <;> simp [isWind] at hx
        rename_i ts
        exact ⟨ts, ⟨hx.1, fun y hy => toll_of (hx.2 y hy)⟩, rfl⟩
      · exact wind_ok e t h
    · cases e
theorem good_parts {g w t : D} (hg : rowsErr g = none) (hw : windsErr w = none) (ht : isNum t 1 99 = true) : ∃ rows winds top, partsOf g w t rows winds top := by
  unfold rowsErr at hg
  cases e : seq g with
  | none => rw [e] at hg; cases hg
  | some rs =>
    rw [e] at hg
    simp only at hg
    split at hg
    case isFalse => cases hg
    case isTrue h16 =>
      cases e1 : rowsErr1 (wid rs) 0 rs with
      | some z => rw [e1] at hg; cases hg
      | none =>
        rw [e1] at hg
        simp only at hg
        split at hg
        case isFalse => cases hg
        case isTrue hwat =>
          obtain ⟨rows, er, hr⟩ := rows_lists (rows_ok e1)
          have hlen : rows.length = rs.length := by have := congrArg List.length er; simpa using this.symm
          have h0 : 0 < rows.length := by omega
          have hx0 := hr rows[0] (List.getElem_mem h0)
          have gr : GdR rows := ⟨by omega, by omega, ⟨wid rs, by omega, by omega, fun x hx => (hr x hx).2.2.1⟩, fun x hx => col_ok (hr x hx).2.2.2, by rw [← water_eq er]; exact hwat⟩
          unfold windsErr at hw
          cases ew : seq w with
          | none => rw [ew] at hw; cases hw
          | some ws =>
            rw [ew] at hw
            simp only at hw
            split at hw
            case isFalse => cases hw
            case isTrue h8 =>
              obtain ⟨winds, rfl, hgu⟩ := gusts_of ws (wind_ok (k := 0) (by simpa using hw))
              simp at h8
              cases t <;> simp [isNum] at ht
              rename_i top
              exact ⟨rows, winds, top, ⟨rs, e, er⟩, ew, rfl, ⟨gr, h8, hgu, ht.1, ht.2⟩⟩
theorem lst_seq {v : D} {rs : List D} {M : Mu} {Q : DK} (hv : seq v = some rs) (q : Q (.lst 0 rs) M) : lstD [v] M Q := by
  rcases seq_len hv with ⟨_, rfl⟩ | rfl <;> exact q
theorem it_seq {i : Nat} {ρ : DEnv} {v : D} {rs : List D} {M : Mu} {Q : List D → Mu → Prop} (hv : seq v = some rs) (e : ρ[i]? = some (some v)) (q : Q rs M) : dIt (dVar i) ρ M Q := by
  simp only [dIt, dVar, e]
  rcases seq_len hv with ⟨_, rfl⟩ | rfl <;> exact q
theorem comp_held {G : D} {rs : List D} {M : Mu} {Q : DK} {x y z : Option D} : ∀ (ds : List D) (rows : List (List D)) (acc : List D), ds.map seq = rows.map some → acc.length + ds.length ≤ 100000 → Q (.lst 0 (acc ++ rows.map (.lst 0))) M →
    compi (gNm 4) dYes (dCB lstD (dCons (dVar 4) dNil)) [x, some G, y, z, none, none, none, none] ds acc M Q
  | [], [], acc, _, _, q => by simpa [compi] using q
  | [], _ :: _, _, h, _, _ => by cases h
  | _ :: _, [], _, h, _, _ => by cases h
  | d :: ds, r :: rows, acc, h, hl, q => by
    simp only [List.map_cons, List.cons.injEq] at h
    simp only [List.length_cons] at hl
    have ih := comp_held (G := G) (rs := rs) (M := M) (Q := Q) (x := x) (y := y) (z := z) ds rows (acc ++ [.lst 0 r]) h.2 (by simp; omega) (by simpa using q)
    rw [compi]
    rcases seq_len h.1 with ⟨_, rfl⟩ | rfl
    · exact ⟨by omega, ih⟩
    · exact ⟨by omega, ih⟩
theorem init_good {G W : D} {a : Addr} {rows winds : List (List D)} {top : Int} {M : Mu} {Q : DK} {E : DXK} (ha : M a = some (.ins "Chart" [])) (hG : rowsOf G rows) (hW : seq W = some (winds.map .tup)) (g : Gd rows winds top)
    (q : ∀ M' b kvs, b ≠ a → M b = none → M' a = some (.ins "Chart" (chartF rows winds top (.ref b))) → M' b = some (.dT kvs) → (∀ p ∈ kvs, toll p.2) → (∀ x, x ≠ a → x ≠ b → M' x = M x) → Q .non M') :
    t_Chart___init___8 E { nx := fun _ M' => Q .non M', rt := Q } [some (.ref a), some G, some W, some (.int top), none, none, none, none] M := by
  obtain ⟨ds, hs, hds⟩ := hG
  have hdl : ds.length = rows.length := by have := congrArg List.length hds; simpa using this
  simp only [t_Chart___init___8, dSeq, dSetF, dVar]
  simp only [List.getElem?_cons_succ, List.getElem?_cons_zero, ha, p1]
  refine ⟨trivial, by simp, ?_⟩
  simp only [t_Chart___init___7, dSeq, dSetF, dVar, dCB, dCons, dNil]
  simp only [List.getElem?_cons_succ, List.getElem?_cons_zero]
  refine len_seq hW ?_
  simp only [setM_same, setM_set, p2]
  refine ⟨trivial, by simp, ?_⟩
  simp only [t_Chart___init___6, dSeq, dSetF, dLc]
  refine it_seq hs rfl ?_
  refine comp_held (rs := ds) ds rows [] hds (by have := g.r.hi; simp; omega) ?_
  simp only [dVar, List.getElem?_cons_succ, List.getElem?_cons_zero, setM_same, setM_set, List.nil_append, p3]
  refine ⟨trivial, by simp, ?_⟩
  simp only [t_Chart___init___5, dSeq, dSetF, dVar, dCB, dCons, dNil]
  simp only [List.getElem?_cons_succ, List.getElem?_cons_zero]
  refine lst_seq hW ?_
  simp only [setM_same, setM_set, p4]
  refine ⟨trivial, by simp, ?_⟩
  simp only [t_Chart___init___4, dSeq, dSetF, dVar, dDictT]
  simp only [List.getElem?_cons_succ, List.getElem?_cons_zero]
  intro b hb
  have hab : a ≠ b := fun z => by subst z; rw [setM_same] at hb; cases hb
  have hMb : M b = none := by rw [setM_ne hab.symm] at hb; exact hb
  rw [setM_ne hab, setM_same]
  simp only [p5]
  refine ⟨trivial, by simp, ?_⟩
  have L0 : Lay M (setM (setM (setM M a (.ins "Chart" [("top", .int top), ("last", .int (winds.map D.tup).length), ("held_rows", .lst 0 (rows.map (D.lst 0))), ("held_winds", .lst 0 (winds.map D.tup))])) b (.dT [])) a (.ins "Chart" [("top", .int top), ("last", .int (winds.map D.tup).length), ("held_rows", .lst 0 (rows.map (D.lst 0))), ("held_winds", .lst 0 (winds.map D.tup)), ("drags", .ref b)])) a b (chartF rows winds top (.ref b)) 0 := by
    refine ⟨by rw [setM_same]; simp [chartF, rowsD, windsD], ⟨[], by rw [setM_ne hab.symm, setM_same], by simp, by simp⟩, fun x hx hy => by rw [setM_ne hx, setM_ne hy, setM_ne hx]⟩
  generalize setM (setM (setM M a (.ins "Chart" [("top", .int top), ("last", .int (winds.map D.tup).length), ("held_rows", .lst 0 (rows.map (D.lst 0))), ("held_winds", .lst 0 (winds.map D.tup))])) b (.dT [])) a (.ins "Chart" [("top", .int top), ("last", .int (winds.map D.tup).length), ("held_rows", .lst 0 (rows.map (D.lst 0))), ("held_winds", .lst 0 (winds.map D.tup)), ("drags", .ref b)]) = M5 at L0 ⊢
  have ins : ∀ {M' : Mu} {n : Nat}, Lay M M' a b (chartF rows winds top (.ref b)) n → insF "Chart" (.ref a) M' = some (chartF rows winds top (.ref b)) := fun h => by simp [insF, h.ia]
  simp only [t_Chart___init___3, dFor, dEnT, dCons, dNil, dFld, dVar]
  simp only [List.getElem?_cons_zero, ins L0, fld_rows, rowsD]
  have h6 := g.r.hi
  refine fori_left (P := fun l ρ M' => (∀ x ∈ l, ∃ (i : Nat), ∃ row ∈ rows, x = .tup [.int i, .lst 0 row]) ∧ l.length ≤ 6 ∧ Lay M M' a b (chartF rows winds top (.ref b)) (36 - l.length * 6) ∧ ∃ o4 o5 o6 o7, ρ = [some (.ref a), some G, some W, some (.int top), o4, o5, o6, o7]) ?_ ⟨fun x hx => ?_, by rw [enum_len]; simpa using h6, L0.mono (by omega), none, none, none, none, rfl⟩ ?_
  · rintro x l _ M6 ⟨hf, hl, hL, o4, o5, o6, o7, rfl⟩ nx hnx
    obtain ⟨i, row, hrow, rfl⟩ := hf x List.mem_cons_self
    simp only [List.length_cons] at hl hL
    have hr6 := (g.row_len hrow).2
    simp only [gTp, gsCons, gNm, gsNil, t_Chart___init___2, dFor, dEnT, dCons, dNil, dVar, List.set_cons_succ, List.set_cons_zero]
    refine ⟨rfl, ?_⟩
    simp only [List.getElem?_cons_succ, List.getElem?_cons_zero]
    refine fori_left (P := fun m ρ M' => (∀ x ∈ m, ∃ (j : Nat), ∃ t ∈ row, x = .tup [.int j, t]) ∧ m.length ≤ 6 ∧ Lay M M' a b (chartF rows winds top (.ref b)) (36 - l.length * 6 - m.length) ∧ ∃ o6 o7, ρ = [some (.ref a), some G, some W, some (.int top), some (.int i), some (.lst 0 row), o6, o7]) ?_ ⟨fun x hx => ?_, by rw [enum_len]; exact hr6, hL.mono (by rw [enum_len]; omega), o6, o7, rfl⟩ ?_
    · rintro x m _ M7 ⟨hf2, hl2, hL2, o6, o7, rfl⟩ nx2 hnx2
      obtain ⟨j, t, ht, rfl⟩ := hf2 x List.mem_cons_self
      simp only [List.length_cons] at hl2 hL2
      rcases g.r.tl row hrow t ht with rfl | ⟨n, rfl, n0, n1⟩
      · simp [t_Chart___init___1, DL.isNon]
        exact hnx2 _ _ ⟨fun y hy => hf2 y (List.mem_cons_of_mem _ hy), by omega, hL2.mono (by omega), _, _, rfl⟩
      · simp [t_Chart___init___1, DL.isNon, ins hL2, fld_drags, toKeys, toKey]
        obtain ⟨kvs, ek, hk1, hk2⟩ := hL2.ib
        rw [ek]
        refine ⟨by omega, ?_⟩
        exact hnx2 _ _ ⟨fun y hy => hf2 y (List.mem_cons_of_mem _ hy), by omega, (hL2.put hab ek (.inr ⟨n, rfl, n0, n1⟩)).mono (by omega), _, _, rfl⟩
    · obtain ⟨j, y, hy, rfl⟩ := enum_mem hx
      exact ⟨j, y, hy, rfl⟩
    · rintro _ M7 ⟨_, _, hL2, o6, o7, rfl⟩
      exact hnx _ _ ⟨fun y hy => hf y (List.mem_cons_of_mem _ hy), by omega, hL2.mono (by simp), _, _, _, _, rfl⟩
  · obtain ⟨i, y, hy, rfl⟩ := enum_mem hx
    obtain ⟨row, hrow, rfl⟩ := List.mem_map.mp hy
    exact ⟨i, row, hrow, rfl⟩
  · rintro _ M6 ⟨_, _, hL, _⟩
    obtain ⟨kvs, ek, hk1, hk2⟩ := hL.ib
    exact q M6 b kvs hab.symm hMb hL.ia ek hk2 hL.io
theorem pure_Chart___init__ : ∀ ds M Q E, sp_Chart___init__ ds M Q E → ds.length = (["self", "rows", "winds", "top"] : List Str).length ∧ t_Chart___init__ E { nx := fun _ M' => Q .non M', rt := Q } (startD ["self", "rows", "winds", "top", "row", "items", "column", "drag"] ds) M := by
  rintro ds M Q E ⟨a, g, w, t, rfl, ha, hg, hw, ht, q1, q2, q3, q4⟩
  refine ⟨rfl, ?_⟩
  show t_Chart___init__ E _ [some (.ref a), some g, some w, some t, none, none, none, none] M
  simp only [t_Chart___init__, dSeq, dDrop, dCall, dCons, dVar, dNil, List.getElem?_cons_succ, List.getElem?_cons_zero]
  refine ⟨g, rfl, hg, fun z1 => ?_, fun r c z => q1 r c z⟩
  simp only [t_Chart___init___10, dSeq, dDrop, dCall, dCons, dVar, dNil, List.getElem?_cons_succ, List.getElem?_cons_zero]
  refine ⟨w, rfl, hw, fun z2 => ?_, fun k z => q2 z1 k z⟩
  simp only [t_Chart___init___9, dSeq, dIfS, dNot, dB, dCall, dCons, dVar, dC, dNil, List.getElem?_cons_succ, List.getElem?_cons_zero]
  refine ⟨t, 1, 99, rfl, ht, ?_⟩
  cases e : isNum t 1 99 with
  | false =>
    simp
    exact q3 z1 z2 e
  | true =>
    simp only [isB, Bool.not_true, Bool.false_eq_true, if_false, dNext]
    obtain ⟨rows, winds, top, hp⟩ := good_parts z1 z2 e
    obtain ⟨h1, h2, rfl, h4⟩ := id hp
    exact init_good ha h1 h2 h4 (q4 z1 z2 e rows winds top hp)
theorem rep_mem {xs : List D} {n : Nat} {x : D} (h : x ∈ (List.replicate n xs).flatten) : x ∈ xs := by
  rw [List.mem_flatten] at h
  obtain ⟨l, hl, hx⟩ := h
  rw [List.mem_replicate] at hl
  rw [← hl.2]; exact hx
theorem ty_toll {t : D} (h : toll t) : ty t := by rcases h with rfl | ⟨i, rfl, _⟩ <;> rfl
theorem fit_tup {xs : List D} (h : ∀ x ∈ xs, ty x) (hl : xs.length ≤ 50000) : fit (.tup xs) := ⟨rfl, fun ys e => by cases e; exact ⟨hl, h⟩⟩
theorem fit_lst {r : Nat} {xs : List D} (h : ∀ x ∈ xs, ty x) (hl : xs.length ≤ 50000) : fit (.lst r xs) := ⟨rfl, fun ys e => by cases e; exact ⟨hl, h⟩⟩
theorem fit_flat {x : D} (h : ty x) (hs : seq x = none) : fit x := ⟨h, fun xs e => by rw [hs] at e; cases e⟩
theorem fitG_lst {r : Nat} {xs : List D} (h : ∀ x ∈ xs, fit x) (hl : xs.length ≤ 1000) : fitG (.lst r xs) := ⟨rfl, fun ys e => by cases e; exact ⟨hl, h⟩⟩
theorem fitG_tup {xs : List D} (h : ∀ x ∈ xs, fit x) (hl : xs.length ≤ 1000) : fitG (.tup xs) := ⟨rfl, fun ys e => by cases e; exact ⟨hl, h⟩⟩
theorem fitG_flat {x : D} (h : ty x) (hs : seq x = none) : fitG x := ⟨h, fun xs e => by rw [hs] at e; cases e⟩
theorem fit_gust {ts : List D} (h : gust ts) : fit (.tup ts) := fit_tup (fun x hx => ty_toll (h.2 x hx)) (by have := h.1; omega)
theorem pl_lst {r n : Nat} {xs : List D} (h : ∀ x ∈ xs, plainN n x = true) : plainN (n + 1) (.lst r xs) = true := by rw [plainN, List.all_eq_true]; exact h
theorem pl_tup {n : Nat} {xs : List D} (h : ∀ x ∈ xs, plainN n x = true) : plainN (n + 1) (.tup xs) = true := by rw [plainN, List.all_eq_true]; exact h
theorem pl_toll {n : Nat} {t : D} (h : toll t) : plainN n t = true := by rcases h with rfl | ⟨i, rfl, _⟩ <;> cases n <;> rfl
theorem fitG_rows {rows winds : List (List D)} {top : Int} (g : Gd rows winds top) : fitG (rowsD 0 rows) := by
  refine fitG_lst (fun x hx => ?_) (by have := g.r.hi; simp; omega)
  obtain ⟨r, hr, rfl⟩ := List.mem_map.mp hx
  exact fit_lst (fun t ht => ty_toll (g.r.tl r hr t ht)) (by have := (g.row_len hr).2; omega)
theorem fitW_winds {rows winds : List (List D)} {top : Int} (g : Gd rows winds top) : fitW (windsD 0 winds) := by
  refine fitG_lst (fun x hx => ?_) (by have := g.wn; simp; omega)
  obtain ⟨r, hr, rfl⟩ := List.mem_map.mp hx
  exact fit_gust (g.wg r hr)
end HS
/-! Shared by the laws of charts: rows and winds that are read stand owned. -/
namespace HS
open PySem L2 DL
structure Parsed (M M' : Mu) (R W : Addr) (refs : List Addr) (rows winds : List (List D)) : Prop where
  r : M' R = some (.lst (refs.map .ref))
  w : M' W = some (.lst (winds.map .tup))
  rn : M R = none
  wn : M W = none
  rw : R ≠ W
  ln : refs.length = rows.length
  it : ∀ (i : Nat) a xs, refs[i]? = some a → rows[i]? = some xs → M' a = some (.lst xs)
  fn : ∀ a ∈ refs, M a = none ∧ a ≠ R ∧ a ≠ W
  nd : refs.Nodup
  ot : ∀ x, x ≠ R → x ≠ W → x ∉ refs → M' x = M x
theorem Parsed.own {M M' : Mu} {R W : Addr} {refs : List Addr} {rows winds : List (List D)} (h : Parsed M M' R W refs rows winds) : Own (fun x => if x ∈ refs then none else M' x) M' refs rows :=
  ⟨h.ln, h.it, fun a ha => by simp [ha], h.nd, fun x hx => by simp [hx]⟩
theorem Parsed.mem {M M' : Mu} {R W : Addr} {refs : List Addr} {rows winds : List (List D)} (h : Parsed M M' R W refs rows winds) {a : Addr} (ha : a ∈ refs) : ∃ xs ∈ rows, M' a = some (.lst xs) := h.own.mem ha
theorem Parsed.new {M M' : Mu} {R W a : Addr} {refs : List Addr} {rows winds : List (List D)} (h : Parsed M M' R W refs rows winds) (ha : M' a = none) : a ≠ R ∧ a ≠ W ∧ a ∉ refs ∧ M a = none := by
  have h1 : a ≠ R := fun z => by subst z; rw [h.r] at ha; cases ha
  have h2 : a ≠ W := fun z => by subst z; rw [h.w] at ha; cases ha
  have h3 : a ∉ refs := fun z => by obtain ⟨xs, _, e⟩ := h.mem z; rw [e] at ha; cases ha
  exact ⟨h1, h2, h3, by rw [h.ot a h1 h2 h3] at ha; exact ha⟩
theorem Parsed.row {M M' : Mu} {R W a : Addr} {refs : List Addr} {rows winds : List (List D)} {xs : List D} (h : Parsed M M' R W refs rows winds) (ha : M' a = none) : Parsed M (setM (setM M' a (.lst xs)) R (.lst (refs.map .ref ++ [.ref a]))) R W (refs ++ [a]) (rows ++ [xs]) winds := by
  obtain ⟨n1, n2, n3, n4⟩ := h.new ha
  have s := h.own.snoc (xs := xs) ha
  refine ⟨by rw [setM_same]; simp, by rw [setM_ne h.rw.symm, setM_ne n2.symm]; exact h.w, h.rn, h.wn, h.rw, s.ln, fun i b ys e1 e2 => ?_, fun b hb => ?_, s.nd, fun x h1 h2 h3 => ?_⟩
  · have hb : b ≠ R := fun z => by
      have hm := List.mem_of_getElem? e1
      simp at hm
      rcases hm with hm | hm
      · exact (h.fn b hm).2.1 z
      · exact n1 (hm.symm.trans z)
    rw [setM_ne hb]; exact s.it i b ys e1 e2
  · simp at hb
    rcases hb with hb | rfl
    · exact h.fn b hb
    · exact ⟨n4, n1, n2⟩
  · simp at h3
    rw [setM_ne h1, setM_ne h3.2]; exact h.ot x h1 h2 h3.1
theorem Parsed.wind {M M' : Mu} {R W : Addr} {refs : List Addr} {rows winds : List (List D)} {xs : List D} (h : Parsed M M' R W refs rows winds) : Parsed M (setM M' W (.lst (winds.map .tup ++ [.tup xs]))) R W refs rows (winds ++ [xs]) := by
  refine ⟨by rw [setM_ne h.rw]; exact h.r, by rw [setM_same]; simp, h.rn, h.wn, h.rw, h.ln, fun i b ys e1 e2 => ?_, h.fn, h.nd, fun x h1 h2 h3 => by rw [setM_ne h2]; exact h.ot x h1 h2 h3⟩
  have hb := (h.fn b (List.mem_of_getElem? e1)).2.2
  rw [setM_ne hb]; exact h.it i b ys e1 e2
abbrev lnt (R W : Addr) (refs : List Addr) : Addr → Prop := fun x => x = R ∨ x = W ∨ x ∈ refs
section
variable {M M' : Mu} {R W : Addr} {refs : List Addr} {rows winds : List (List D)}
theorem Parsed.lok (h : Parsed M M' R W refs rows winds) : ∀ a, lnt R W refs a → ∃ xs, M' a = some (.lst xs) := by
  rintro a (rfl | rfl | ha)
  · exact ⟨_, h.r⟩
  · exact ⟨_, h.w⟩
  · obtain ⟨xs, _, e⟩ := h.mem ha; exact ⟨xs, e⟩
theorem Parsed.ldR (h : Parsed M M' R W refs rows winds) (ht : ∀ x ∈ rows, ∀ t ∈ x, toll t) {r : Nat} : ld M' (lnt R W refs) r 9 (.ref R) = rowsD r rows := by
  rw [ld, if_pos (.inl rfl), h.r]
  simp only
  rw [ld_refs (n := 7) h.own ht (fun a ha => .inr (.inr ha)) (fun a ha => rfl)]; rfl
theorem Parsed.ldW (h : Parsed M M' R W refs rows winds) (ht : ∀ x ∈ winds, ∀ t ∈ x, toll t) {r : Nat} : ld M' (lnt R W refs) r 9 (.ref W) = windsD r winds := by
  rw [ld, if_pos (.inr (.inl rfl)), h.w]
  simp only
  rw [ld_winds (n := 7) ht]; rfl
end
theorem noRL_toll {r : Nat} {xs : List D} (h : ∀ t ∈ xs, toll t) : noRL r xs = true := by
  rw [noRL_all, List.all_eq_true]; exact fun t ht => noR_toll (h t ht)
theorem Parsed.ex {M M' : Mu} {R W : Addr} {refs : List Addr} {rows winds : List (List D)} (h : Parsed M M' R W refs rows winds) : Ex M M' := fun x m e => by
  have n1 : x ≠ R := fun z => by subst z; rw [h.rn] at e; cases e
  have n2 : x ≠ W := fun z => by subst z; rw [h.wn] at e; cases e
  have n3 : x ∉ refs := fun z => by rw [(h.fn x z).1] at e; cases e
  rw [h.ot x n1 n2 n3]; exact e
theorem back_set {M : Mu} {lent : Addr → Prop} {a : Addr} {m : MO} (h : ¬ lent a) : back (setM (drop M lent) a m) M lent = setM M a m := by
  funext x
  unfold back setM drop
  by_cases h1 : lent x
  · have : x ≠ a := fun z => h (z ▸ h1)
    simp [h1, this]
  · simp [h1]
end HS
/-! The text by places, scopes. Printed by a program of mine. -/
namespace K08
open PySem L2 DL HS
def top (i : Nat) : Stmt := PySem.Challenge.pw_highestsky_k08_chart_texts_refused_by_ha.main.body.getD i (.Pass ⟨0, 0, 0, 0⟩)
def clsBody (s : Stmt) (i : Nat) : Stmt := match s with
  | .ClassDef _ _ _ b _ _ _ _ _ _ _ => b.getD i (.Pass ⟨0, 0, 0, 0⟩)
  | _ => .Pass ⟨0, 0, 0, 0⟩
abbrev s_is_number : Stmt := top 14
abbrev s_number_in : Stmt := top 17
abbrev s_items_in : Stmt := top 26
abbrev s_has_water : Stmt := top 27
abbrev s_read_top : Stmt := top 28
abbrev s_read_row : Stmt := top 29
abbrev s_read_wind : Stmt := top 30
abbrev s_read_parts : Stmt := top 31
abbrev s_is_wind : Stmt := top 35
abbrev s_is_listed : Stmt := top 38
abbrev s_check_rows : Stmt := top 39
abbrev s_check_winds : Stmt := top 40
abbrev s__law_bag : Stmt := top 43
abbrev s__law_draw : Stmt := top 44
abbrev s__law_pick : Stmt := top 45
abbrev s__law_same : Stmt := top 46
abbrev s__law_field : Stmt := top 47
abbrev s__law_try : Stmt := top 48
abbrev s__law_tries : Stmt := top 49
abbrev s__law_cases : Stmt := top 50
abbrev s__law_heads : Stmt := top 51
abbrev s_law : Stmt := top 52
abbrev s_Chart___init__ : Stmt := clsBody (top 41) 2
abbrev s_Chart_read : Stmt := clsBody (top 41) 14
theorem sc_is_number : FnScope ["value", "least", "most"] ["value", "least", "most"] (defScope s_is_number) := ⟨rfl, rfl, rfl, by decide +kernel, rfl, by decide +kernel, by decide +kernel⟩
theorem bn_is_number : ∀ (kV doc pm : Value) (an : Option Addr) (cdv ct : Value) (us : List Value), us.length = (["value", "least", "most"] : List Str).length → bindArgs (PySem.W.fnOf "is_number" "is_number" (defArgs s_is_number) (defBody s_is_number) (defScope s_is_number) .none kV doc pm an cdv ct) ⟨us, []⟩ = pure ((["value", "least", "most"] : List Str).zip us) := fun _ _ _ _ _ _ us hl => match us, hl with | [_, _, _], _ => rfl
theorem sc_number_in : FnScope ["text", "digit"] ["text"] (defScope s_number_in) := ⟨rfl, rfl, rfl, by decide +kernel, rfl, by decide +kernel, by decide +kernel⟩
theorem bn_number_in : ∀ (kV doc pm : Value) (an : Option Addr) (cdv ct : Value) (us : List Value), us.length = (["text"] : List Str).length → bindArgs (PySem.W.fnOf "number_in" "number_in" (defArgs s_number_in) (defBody s_number_in) (defScope s_number_in) .none kV doc pm an cdv ct) ⟨us, []⟩ = pure ((["text"] : List Str).zip us) := fun _ _ _ _ _ _ us hl => match us, hl with | [_], _ => rfl
theorem sc_items_in : FnScope ["words", "missing", "items", "word", "item"] ["words", "missing"] (defScope s_items_in) := ⟨rfl, rfl, rfl, by decide +kernel, rfl, by decide +kernel, by decide +kernel⟩
theorem bn_items_in : ∀ (kV doc pm : Value) (an : Option Addr) (cdv ct : Value) (us : List Value), us.length = (["words", "missing"] : List Str).length → bindArgs (PySem.W.fnOf "items_in" "items_in" (defArgs s_items_in) (defBody s_items_in) (defScope s_items_in) .none kV doc pm an cdv ct) ⟨us, []⟩ = pure ((["words", "missing"] : List Str).zip us) := fun _ _ _ _ _ _ us hl => match us, hl with | [_, _], _ => rfl
theorem sc_has_water : FnScope ["rows", "row", "drag"] ["rows"] (defScope s_has_water) := ⟨rfl, rfl, rfl, by decide +kernel, rfl, by decide +kernel, by decide +kernel⟩
theorem bn_has_water : ∀ (kV doc pm : Value) (an : Option Addr) (cdv ct : Value) (us : List Value), us.length = (["rows"] : List Str).length → bindArgs (PySem.W.fnOf "has_water" "has_water" (defArgs s_has_water) (defBody s_has_water) (defScope s_has_water) .none kV doc pm an cdv ct) ⟨us, []⟩ = pure ((["rows"] : List Str).zip us) := fun _ _ _ _ _ _ us hl => match us, hl with | [_], _ => rfl
theorem sc_read_top : FnScope ["words", "top"] ["words"] (defScope s_read_top) := ⟨rfl, rfl, rfl, by decide +kernel, rfl, by decide +kernel, by decide +kernel⟩
theorem bn_read_top : ∀ (kV doc pm : Value) (an : Option Addr) (cdv ct : Value) (us : List Value), us.length = (["words"] : List Str).length → bindArgs (PySem.W.fnOf "read_top" "read_top" (defArgs s_read_top) (defBody s_read_top) (defScope s_read_top) .none kV doc pm an cdv ct) ⟨us, []⟩ = pure ((["words"] : List Str).zip us) := fun _ _ _ _ _ _ us hl => match us, hl with | [_], _ => rfl
theorem sc_read_row : FnScope ["at", "words", "rows", "winds", "items"] ["at", "words", "rows", "winds"] (defScope s_read_row) := ⟨rfl, rfl, rfl, by decide +kernel, rfl, by decide +kernel, by decide +kernel⟩
theorem bn_read_row : ∀ (kV doc pm : Value) (an : Option Addr) (cdv ct : Value) (us : List Value), us.length = (["at", "words", "rows", "winds"] : List Str).length → bindArgs (PySem.W.fnOf "read_row" "read_row" (defArgs s_read_row) (defBody s_read_row) (defScope s_read_row) .none kV doc pm an cdv ct) ⟨us, []⟩ = pure ((["at", "words", "rows", "winds"] : List Str).zip us) := fun _ _ _ _ _ _ us hl => match us, hl with | [_, _, _, _], _ => rfl
theorem sc_read_wind : FnScope ["at", "words", "rows", "winds", "items"] ["at", "words", "rows", "winds"] (defScope s_read_wind) := ⟨rfl, rfl, rfl, by decide +kernel, rfl, by decide +kernel, by decide +kernel⟩
theorem bn_read_wind : ∀ (kV doc pm : Value) (an : Option Addr) (cdv ct : Value) (us : List Value), us.length = (["at", "words", "rows", "winds"] : List Str).length → bindArgs (PySem.W.fnOf "read_wind" "read_wind" (defArgs s_read_wind) (defBody s_read_wind) (defScope s_read_wind) .none kV doc pm an cdv ct) ⟨us, []⟩ = pure ((["at", "words", "rows", "winds"] : List Str).zip us) := fun _ _ _ _ _ _ us hl => match us, hl with | [_, _, _, _], _ => rfl
theorem sc_read_parts : FnScope ["text", "lines", "rest", "rows", "winds", "top", "at", "line", "words"] ["text"] (defScope s_read_parts) := ⟨rfl, rfl, rfl, by decide +kernel, rfl, by decide +kernel, by decide +kernel⟩
theorem bn_read_parts : ∀ (kV doc pm : Value) (an : Option Addr) (cdv ct : Value) (us : List Value), us.length = (["text"] : List Str).length → bindArgs (PySem.W.fnOf "read_parts" "read_parts" (defArgs s_read_parts) (defBody s_read_parts) (defScope s_read_parts) .none kV doc pm an cdv ct) ⟨us, []⟩ = pure ((["text"] : List Str).zip us) := fun _ _ _ _ _ _ us hl => match us, hl with | [_], _ => rfl
theorem sc_is_wind : FnScope ["value", "toll"] ["value"] (defScope s_is_wind) := ⟨rfl, rfl, rfl, by decide +kernel, rfl, by decide +kernel, by decide +kernel⟩
theorem bn_is_wind : ∀ (kV doc pm : Value) (an : Option Addr) (cdv ct : Value) (us : List Value), us.length = (["value"] : List Str).length → bindArgs (PySem.W.fnOf "is_wind" "is_wind" (defArgs s_is_wind) (defBody s_is_wind) (defScope s_is_wind) .none kV doc pm an cdv ct) ⟨us, []⟩ = pure ((["value"] : List Str).zip us) := fun _ _ _ _ _ _ us hl => match us, hl with | [_], _ => rfl
theorem sc_is_listed : FnScope ["value", "least", "most"] ["value", "least", "most"] (defScope s_is_listed) := ⟨rfl, rfl, rfl, by decide +kernel, rfl, by decide +kernel, by decide +kernel⟩
theorem bn_is_listed : ∀ (kV doc pm : Value) (an : Option Addr) (cdv ct : Value) (us : List Value), us.length = (["value", "least", "most"] : List Str).length → bindArgs (PySem.W.fnOf "is_listed" "is_listed" (defArgs s_is_listed) (defBody s_is_listed) (defScope s_is_listed) .none kV doc pm an cdv ct) ⟨us, []⟩ = pure ((["value", "least", "most"] : List Str).zip us) := fun _ _ _ _ _ _ us hl => match us, hl with | [_, _, _], _ => rfl
theorem sc_check_rows : FnScope ["rows", "at", "row", "column", "drag"] ["rows"] (defScope s_check_rows) := ⟨rfl, rfl, rfl, by decide +kernel, rfl, by decide +kernel, by decide +kernel⟩
theorem bn_check_rows : ∀ (kV doc pm : Value) (an : Option Addr) (cdv ct : Value) (us : List Value), us.length = (["rows"] : List Str).length → bindArgs (PySem.W.fnOf "check_rows" "check_rows" (defArgs s_check_rows) (defBody s_check_rows) (defScope s_check_rows) .none kV doc pm an cdv ct) ⟨us, []⟩ = pure ((["rows"] : List Str).zip us) := fun _ _ _ _ _ _ us hl => match us, hl with | [_], _ => rfl
theorem sc_check_winds : FnScope ["winds", "at", "wind"] ["winds"] (defScope s_check_winds) := ⟨rfl, rfl, rfl, by decide +kernel, rfl, by decide +kernel, by decide +kernel⟩
theorem bn_check_winds : ∀ (kV doc pm : Value) (an : Option Addr) (cdv ct : Value) (us : List Value), us.length = (["winds"] : List Str).length → bindArgs (PySem.W.fnOf "check_winds" "check_winds" (defArgs s_check_winds) (defBody s_check_winds) (defScope s_check_winds) .none kV doc pm an cdv ct) ⟨us, []⟩ = pure ((["winds"] : List Str).zip us) := fun _ _ _ _ _ _ us hl => match us, hl with | [_], _ => rfl
theorem sc__law_bag : FnScope ["_law_script", "_law_cells_z", "_law_cell_z", "_law_mark"] ["_law_script"] (defScope s__law_bag) := ⟨rfl, rfl, rfl, by decide +kernel, rfl, by decide +kernel, by decide +kernel⟩
theorem bn__law_bag : ∀ (kV doc pm : Value) (an : Option Addr) (cdv ct : Value) (us : List Value), us.length = (["_law_script"] : List Str).length → bindArgs (PySem.W.fnOf "_law_bag" "_law_bag" (defArgs s__law_bag) (defBody s__law_bag) (defScope s__law_bag) .none kV doc pm an cdv ct) ⟨us, []⟩ = pure ((["_law_script"] : List Str).zip us) := fun _ _ _ _ _ _ us hl => match us, hl with | [_], _ => rfl
theorem sc__law_draw : FnScope ["_law_bag_here", "_law_many", "_law_cell_z", "_law_mixed", "_law_second", "_law_digit"] ["_law_bag_here", "_law_many"] (defScope s__law_draw) := ⟨rfl, rfl, rfl, by decide +kernel, rfl, by decide +kernel, by decide +kernel⟩
theorem bn__law_draw : ∀ (kV doc pm : Value) (an : Option Addr) (cdv ct : Value) (us : List Value), us.length = (["_law_bag_here", "_law_many"] : List Str).length → bindArgs (PySem.W.fnOf "_law_draw" "_law_draw" (defArgs s__law_draw) (defBody s__law_draw) (defScope s__law_draw) .none kV doc pm an cdv ct) ⟨us, []⟩ = pure ((["_law_bag_here", "_law_many"] : List Str).zip us) := fun _ _ _ _ _ _ us hl => match us, hl with | [_, _], _ => rfl
theorem sc__law_pick : FnScope ["_law_bag_here", "_law_some"] ["_law_bag_here", "_law_some"] (defScope s__law_pick) := ⟨rfl, rfl, rfl, by decide +kernel, rfl, by decide +kernel, by decide +kernel⟩
theorem bn__law_pick : ∀ (kV doc pm : Value) (an : Option Addr) (cdv ct : Value) (us : List Value), us.length = (["_law_bag_here", "_law_some"] : List Str).length → bindArgs (PySem.W.fnOf "_law_pick" "_law_pick" (defArgs s__law_pick) (defBody s__law_pick) (defScope s__law_pick) .none kV doc pm an cdv ct) ⟨us, []⟩ = pure ((["_law_bag_here", "_law_some"] : List Str).zip us) := fun _ _ _ _ _ _ us hl => match us, hl with | [_, _], _ => rfl
theorem sc__law_same : FnScope ["_law_found", "_law_due", "_law_one", "_law_two"] ["_law_found", "_law_due"] (defScope s__law_same) := ⟨rfl, rfl, rfl, by decide +kernel, rfl, by decide +kernel, by decide +kernel⟩
theorem bn__law_same : ∀ (kV doc pm : Value) (an : Option Addr) (cdv ct : Value) (us : List Value), us.length = (["_law_found", "_law_due"] : List Str).length → bindArgs (PySem.W.fnOf "_law_same" "_law_same" (defArgs s__law_same) (defBody s__law_same) (defScope s__law_same) .none kV doc pm an cdv ct) ⟨us, []⟩ = pure ((["_law_found", "_law_due"] : List Str).zip us) := fun _ _ _ _ _ _ us hl => match us, hl with | [_, _], _ => rfl
theorem sc__law_field : FnScope ["_law_e"] ["_law_e"] (defScope s__law_field) := ⟨rfl, rfl, rfl, by decide +kernel, rfl, by decide +kernel, by decide +kernel⟩
theorem bn__law_field : ∀ (kV doc pm : Value) (an : Option Addr) (cdv ct : Value) (us : List Value), us.length = (["_law_e"] : List Str).length → bindArgs (PySem.W.fnOf "_law_field" "_law_field" (defArgs s__law_field) (defBody s__law_field) (defScope s__law_field) .none kV doc pm an cdv ct) ⟨us, []⟩ = pure ((["_law_e"] : List Str).zip us) := fun _ _ _ _ _ _ us hl => match us, hl with | [_], _ => rfl
theorem sc__law_try : FnScope ["_law_ask", "_law_e"] ["_law_ask"] (defScope s__law_try) := ⟨rfl, rfl, rfl, by decide +kernel, rfl, by decide +kernel, by decide +kernel⟩
theorem bn__law_try : ∀ (kV doc pm : Value) (an : Option Addr) (cdv ct : Value) (us : List Value), us.length = (["_law_ask"] : List Str).length → bindArgs (PySem.W.fnOf "_law_try" "_law_try" (defArgs s__law_try) (defBody s__law_try) (defScope s__law_try) .none kV doc pm an cdv ct) ⟨us, []⟩ = pure ((["_law_ask"] : List Str).zip us) := fun _ _ _ _ _ _ us hl => match us, hl with | [_], _ => rfl
theorem sc__law_tries : FnScope ["_law_asks", "_law_ask"] ["_law_asks"] (defScope s__law_tries) := ⟨rfl, rfl, rfl, by decide +kernel, rfl, by decide +kernel, by decide +kernel⟩
theorem bn__law_tries : ∀ (kV doc pm : Value) (an : Option Addr) (cdv ct : Value) (us : List Value), us.length = (["_law_asks"] : List Str).length → bindArgs (PySem.W.fnOf "_law_tries" "_law_tries" (defArgs s__law_tries) (defBody s__law_tries) (defScope s__law_tries) .none kV doc pm an cdv ct) ⟨us, []⟩ = pure ((["_law_asks"] : List Str).zip us) := fun _ _ _ _ _ _ us hl => match us, hl with | [_], _ => rfl
theorem sc__law_cases : FnScope ["_law_head", "_law_item", "_law_gust", "_law_good"] ["_law_head", "_law_item", "_law_gust"] (defScope s__law_cases) := ⟨rfl, rfl, rfl, by decide +kernel, rfl, by decide +kernel, by decide +kernel⟩
theorem bn__law_cases : ∀ (kV doc pm : Value) (an : Option Addr) (cdv ct : Value) (us : List Value), us.length = (["_law_head", "_law_item", "_law_gust"] : List Str).length → bindArgs (PySem.W.fnOf "_law_cases" "_law_cases" (defArgs s__law_cases) (defBody s__law_cases) (defScope s__law_cases) .none kV doc pm an cdv ct) ⟨us, []⟩ = pure ((["_law_head", "_law_item", "_law_gust"] : List Str).zip us) := fun _ _ _ _ _ _ us hl => match us, hl with | [_, _, _], _ => rfl
theorem sc__law_heads : FnScope [] [] (defScope s__law_heads) := ⟨rfl, rfl, rfl, by decide +kernel, rfl, by decide +kernel, by decide +kernel⟩
theorem bn__law_heads : ∀ (kV doc pm : Value) (an : Option Addr) (cdv ct : Value) (us : List Value), us.length = ([] : List Str).length → bindArgs (PySem.W.fnOf "_law_heads" "_law_heads" (defArgs s__law_heads) (defBody s__law_heads) (defScope s__law_heads) .none kV doc pm an cdv ct) ⟨us, []⟩ = pure (([] : List Str).zip us) := fun _ _ _ _ _ _ us hl => match us, hl with | [], _ => rfl
theorem sc_law : FnScope ["_law_script", "_law_bag_here", "_law_item", "_law_gust", "_law_k", "_law_head", "_law_some", "_law_text_z", "_law_due", "_law_behind", "_law_told", "_law_one", "_law_asks", "_law_odd"] ["_law_script"] (defScope s_law) := ⟨rfl, rfl, rfl, by decide +kernel, rfl, by decide +kernel, by decide +kernel⟩
theorem bn_law : ∀ (kV doc pm : Value) (an : Option Addr) (cdv ct : Value) (us : List Value), us.length = (["_law_script"] : List Str).length → bindArgs (PySem.W.fnOf "law" "law" (defArgs s_law) (defBody s_law) (defScope s_law) .none kV doc pm an cdv ct) ⟨us, []⟩ = pure ((["_law_script"] : List Str).zip us) := fun _ _ _ _ _ _ us hl => match us, hl with | [_], _ => rfl
theorem sc_Chart___init__ : FnScope ["self", "rows", "winds", "top", "row", "items", "column", "drag"] ["self", "rows", "winds", "top"] (defScope s_Chart___init__) := ⟨rfl, rfl, rfl, by decide +kernel, rfl, by decide +kernel, by decide +kernel⟩
theorem sc_Chart_read : FnScope ["text", "rows", "winds", "top", "many"] ["text"] (defScope s_Chart_read) := ⟨rfl, rfl, rfl, by decide +kernel, rfl, by decide +kernel, by decide +kernel⟩
theorem bn_Chart_read : ∀ (kV doc pm : Value) (an : Option Addr) (cdv ct : Value) (us : List Value), us.length = (["text"] : List Str).length → bindArgs (PySem.W.fnOf "read" "Chart.read" (defArgs s_Chart_read) (defBody s_Chart_read) (defScope s_Chart_read) .none kV doc pm an cdv ct) ⟨us, []⟩ = pure ((["text"] : List Str).zip us) := fun _ _ _ _ _ _ us hl => match us, hl with | [_], _ => rfl
theorem kb_M_Chart_2_top {K : PySem.W.Frag} {dvs : List V} {kws : List (Str × V)} {f : Addr} {fd : FuncData} (F : FunD K "__init__" "Chart.__init__" (defArgs s_Chart___init__) (defBody s_Chart___init__) (defScope s_Chart___init__) dvs kws f fd) (hd : dvs.length = 1) (hk : kws ≠ []) : KB K fd ["self", "rows", "winds", "top"] 3 ["top"] (fun ds es => ds ++ es) :=
  kbB F (fun z => by rw [z] at hd; cases hd) hk fun T D doc pm an cdv ct us its ws h1 h2 h3 => match us, its, ws, h1, h2.trans hd, h3 with | [_, _, _], [_], [_], _, _, _ => ⟨_, rfl, rfl⟩
theorem kb_S_Chart_read_1 {K : PySem.W.Frag} {f : Addr} {fd : FuncData} (F : FunD K "read" "Chart.read" (defArgs s_Chart_read) (defBody s_Chart_read) (defScope s_Chart_read) [] [] f fd) : KB K fd ["text"] 1 [] (fun ds es => ds ++ es) :=
  kbA F fun _ _ _ _ _ _ us ws h1 h2 => match us, ws, h1, h2 with | [_], [], _, _ => rfl
abbrev si_InvalidChart : Stmt := clsBody (top 4) 0
theorem sci_InvalidChart : FnScope ["self", "row", "column"] ["self", "row", "column"] (defScope si_InvalidChart) := ⟨rfl, rfl, rfl, by decide +kernel, rfl, by decide +kernel, by decide +kernel⟩
theorem bni_InvalidChart : ∀ (kV doc pm : Value) (an : Option Addr) (cdv ct : Value) (us : List Value), us.length = (["self", "row", "column"] : List Str).length → bindArgs (PySem.W.fnOf "__init__" "InvalidChart.__init__" (defArgs si_InvalidChart) (defBody si_InvalidChart) (defScope si_InvalidChart) .none kV doc pm an cdv ct) ⟨us, []⟩ = pure ((["self", "row", "column"] : List Str).zip us) := fun _ _ _ _ _ _ us hl => match us, hl with | [_, _, _], _ => rfl
theorem ini_InvalidChart {P : Program} {w : World} {K : PySem.W.Frag} {mg : Str → Option Value} {base : Heap} {C fI : Addr} {fd : FuncData} (T : OexC K C) (no : noB K C ["code", "row", "column"] = true) (F : FunD K "__init__" "InvalidChart.__init__" (defArgs si_InvalidChart) (defBody si_InvalidChart) (defScope si_InvalidChart) [] [] fI fd) : FnOk P w K mg base CX0 1 fI fd ["self", "row", "column"] (spIni C 2 (mkF V.str .non fl_InvalidChart)) := by
  refine F.ok sci_InvalidChart (fun vs H Q E h => ?_) (fun cdv A outer s H vs Q E hr h => ?_)
  · obtain ⟨a, args, rfl, hl, _⟩ := h
    simp [hl]
  · obtain ⟨a, args, rfl, hl, ha, q⟩ := h
    match args, hl with
    | [x0, x1], _ =>
      refine ⟨_, (pss_cons (ps_ost (pe_var (i := 0) rfl (Or.inl rfl)) pe_str) (pss_cons (ps_ost (pe_var (i := 0) rfl (Or.inl rfl)) (pe_var (i := 1) rfl (Or.inl rfl))) (pss_one (ps_ost (pe_var (i := 0) rfl (Or.inl rfl)) (pe_var (i := 2) rfl (Or.inl rfl)))))), ?_⟩
      refine ost_first (f := "code") (y := .str "InvalidChart") T (noB_ok no (by decide)) rfl ha (fun Q h => h) fun d hd hda => ?_
      dsimp only
      refine ost_next (f := "row") (y := x0) (fs := [("code", .str "InvalidChart")]) T (noB_ok no (by decide)) rfl hda (by simp) (fun Q h => ⟨_, rfl, h⟩) ?_
      dsimp only
      refine ost_next (f := "column") (y := x1) (fs := [("row", x0), ("code", .str "InvalidChart")]) T (noB_ok no (by decide)) rfl hda (by simp) (fun Q h => ⟨_, rfl, h⟩) ?_
      exact q d hd hda
abbrev si_InvalidText : Stmt := clsBody (top 7) 0
theorem sci_InvalidText : FnScope ["self", "line", "why"] ["self", "line", "why"] (defScope si_InvalidText) := ⟨rfl, rfl, rfl, by decide +kernel, rfl, by decide +kernel, by decide +kernel⟩
theorem bni_InvalidText : ∀ (kV doc pm : Value) (an : Option Addr) (cdv ct : Value) (us : List Value), us.length = (["self", "line", "why"] : List Str).length → bindArgs (PySem.W.fnOf "__init__" "InvalidText.__init__" (defArgs si_InvalidText) (defBody si_InvalidText) (defScope si_InvalidText) .none kV doc pm an cdv ct) ⟨us, []⟩ = pure ((["self", "line", "why"] : List Str).zip us) := fun _ _ _ _ _ _ us hl => match us, hl with | [_, _, _], _ => rfl
def fl_InvalidText : List (Str × (Sum Str Nat)) := [("why", .inr 1), ("line", .inr 0), ("code", .inl "InvalidText")]
theorem ini_InvalidText {P : Program} {w : World} {K : PySem.W.Frag} {mg : Str → Option Value} {base : Heap} {C fI : Addr} {fd : FuncData} (T : OexC K C) (no : noB K C ["code", "line", "why"] = true) (F : FunD K "__init__" "InvalidText.__init__" (defArgs si_InvalidText) (defBody si_InvalidText) (defScope si_InvalidText) [] [] fI fd) : FnOk P w K mg base CX0 1 fI fd ["self", "line", "why"] (spIni C 2 (mkF V.str .non fl_InvalidText)) := by
  refine F.ok sci_InvalidText (fun vs H Q E h => ?_) (fun cdv A outer s H vs Q E hr h => ?_)
  · obtain ⟨a, args, rfl, hl, _⟩ := h
    simp [hl]
  · obtain ⟨a, args, rfl, hl, ha, q⟩ := h
    match args, hl with
    | [x0, x1], _ =>
      refine ⟨_, (pss_cons (ps_ost (pe_var (i := 0) rfl (Or.inl rfl)) pe_str) (pss_cons (ps_ost (pe_var (i := 0) rfl (Or.inl rfl)) (pe_var (i := 1) rfl (Or.inl rfl))) (pss_one (ps_ost (pe_var (i := 0) rfl (Or.inl rfl)) (pe_var (i := 2) rfl (Or.inl rfl)))))), ?_⟩
      refine ost_first (f := "code") (y := .str "InvalidText") T (noB_ok no (by decide)) rfl ha (fun Q h => h) fun d hd hda => ?_
      dsimp only
      refine ost_next (f := "line") (y := x0) (fs := [("code", .str "InvalidText")]) T (noB_ok no (by decide)) rfl hda (by simp) (fun Q h => ⟨_, rfl, h⟩) ?_
      dsimp only
      refine ost_next (f := "why") (y := x1) (fs := [("line", x0), ("code", .str "InvalidText")]) T (noB_ok no (by decide)) rfl hda (by simp) (fun Q h => ⟨_, rfl, h⟩) ?_
      exact q d hd hda
abbrev si_InvalidTop : Stmt := clsBody (top 6) 0
theorem sci_InvalidTop : FnScope ["self", "value"] ["self", "value"] (defScope si_InvalidTop) := ⟨rfl, rfl, rfl, by decide +kernel, rfl, by decide +kernel, by decide +kernel⟩
theorem bni_InvalidTop : ∀ (kV doc pm : Value) (an : Option Addr) (cdv ct : Value) (us : List Value), us.length = (["self", "value"] : List Str).length → bindArgs (PySem.W.fnOf "__init__" "InvalidTop.__init__" (defArgs si_InvalidTop) (defBody si_InvalidTop) (defScope si_InvalidTop) .none kV doc pm an cdv ct) ⟨us, []⟩ = pure ((["self", "value"] : List Str).zip us) := fun _ _ _ _ _ _ us hl => match us, hl with | [_, _], _ => rfl
theorem ini_InvalidTop {P : Program} {w : World} {K : PySem.W.Frag} {mg : Str → Option Value} {base : Heap} {C fI : Addr} {fd : FuncData} (T : OexC K C) (no : noB K C ["code", "value"] = true) (F : FunD K "__init__" "InvalidTop.__init__" (defArgs si_InvalidTop) (defBody si_InvalidTop) (defScope si_InvalidTop) [] [] fI fd) : FnOk P w K mg base CX0 1 fI fd ["self", "value"] (spIni C 1 (mkF V.str .non fl_InvalidTop)) := by
  refine F.ok sci_InvalidTop (fun vs H Q E h => ?_) (fun cdv A outer s H vs Q E hr h => ?_)
  · obtain ⟨a, args, rfl, hl, _⟩ := h
    simp [hl]
  · obtain ⟨a, args, rfl, hl, ha, q⟩ := h
    match args, hl with
    | [x0], _ =>
      refine ⟨_, (pss_cons (ps_ost (pe_var (i := 0) rfl (Or.inl rfl)) pe_str) (pss_one (ps_ost (pe_var (i := 0) rfl (Or.inl rfl)) (pe_var (i := 1) rfl (Or.inl rfl))))), ?_⟩
      refine ost_first (f := "code") (y := .str "InvalidTop") T (noB_ok no (by decide)) rfl ha (fun Q h => h) fun d hd hda => ?_
      dsimp only
      refine ost_next (f := "value") (y := x0) (fs := [("code", .str "InvalidTop")]) T (noB_ok no (by decide)) rfl hda (by simp) (fun Q h => ⟨_, rfl, h⟩) ?_
      exact q d hd hda
abbrev si_InvalidWind : Stmt := clsBody (top 5) 0
theorem sci_InvalidWind : FnScope ["self", "at"] ["self", "at"] (defScope si_InvalidWind) := ⟨rfl, rfl, rfl, by decide +kernel, rfl, by decide +kernel, by decide +kernel⟩
theorem bni_InvalidWind : ∀ (kV doc pm : Value) (an : Option Addr) (cdv ct : Value) (us : List Value), us.length = (["self", "at"] : List Str).length → bindArgs (PySem.W.fnOf "__init__" "InvalidWind.__init__" (defArgs si_InvalidWind) (defBody si_InvalidWind) (defScope si_InvalidWind) .none kV doc pm an cdv ct) ⟨us, []⟩ = pure ((["self", "at"] : List Str).zip us) := fun _ _ _ _ _ _ us hl => match us, hl with | [_, _], _ => rfl
theorem ini_InvalidWind {P : Program} {w : World} {K : PySem.W.Frag} {mg : Str → Option Value} {base : Heap} {C fI : Addr} {fd : FuncData} (T : OexC K C) (no : noB K C ["code", "at"] = true) (F : FunD K "__init__" "InvalidWind.__init__" (defArgs si_InvalidWind) (defBody si_InvalidWind) (defScope si_InvalidWind) [] [] fI fd) : FnOk P w K mg base CX0 1 fI fd ["self", "at"] (spIni C 1 (mkF V.str .non fl_InvalidWind)) := by
  refine F.ok sci_InvalidWind (fun vs H Q E h => ?_) (fun cdv A outer s H vs Q E hr h => ?_)
  · obtain ⟨a, args, rfl, hl, _⟩ := h
    simp [hl]
  · obtain ⟨a, args, rfl, hl, ha, q⟩ := h
    match args, hl with
    | [x0], _ =>
      refine ⟨_, (pss_cons (ps_ost (pe_var (i := 0) rfl (Or.inl rfl)) pe_str) (pss_one (ps_ost (pe_var (i := 0) rfl (Or.inl rfl)) (pe_var (i := 1) rfl (Or.inl rfl))))), ?_⟩
      refine ost_first (f := "code") (y := .str "InvalidWind") T (noB_ok no (by decide)) rfl ha (fun Q h => h) fun d hd hda => ?_
      dsimp only
      refine ost_next (f := "at") (y := x0) (fs := [("code", .str "InvalidWind")]) T (noB_ok no (by decide)) rfl hda (by simp) (fun Q h => ⟨_, rfl, h⟩) ?_
      exact q d hd hda
def xnames : List Str := ["InvalidChart", "InvalidText", "InvalidTop", "InvalidWind"]
def xfields : List Str := ["at", "code", "column", "line", "most", "row", "value", "why"]
def fields_Chart : List Str := ["top", "last", "held_rows", "held_winds", "drags"]
structure Gb (P : Program) (w : World) (K : PySem.W.Frag) (mg : Str → Option Value) (base : Heap) (cl : Str → Addr) : Prop where
  b_all : mg "all" = none
  b_any : mg "any" = none
  b_bool : mg "bool" = none
  b_enumerate : mg "enumerate" = none
  b_int : mg "int" = none
  b_isinstance : mg "isinstance" = none
  b_len : mg "len" = none
  b_list : mg "list" = none
  b_range : mg "range" = none
  b_str : mg "str" = none
  b_tuple : mg "tuple" = none
  b_zip : mg "zip" = none
  c_DIGITS : GC K mg "DIGITS" (.str "0123456789")
  c_DIRECTIONS : GC K mg "DIRECTIONS" (.tup [(.str "stay"), (.str "north"), (.str "east"), (.str "south"), (.str "west")])
  c_GREATEST_charts : GC K mg "GREATEST_charts" (.int 99)
  c_GREATEST_charttexts : GC K mg "GREATEST_charttexts" (.int 99)
  c_MOST_DIGITS : GC K mg "MOST_DIGITS" (.int 9)
  c_MOST_ITEMS : GC K mg "MOST_ITEMS" (.int 6)
  c_MOST_ROWS : GC K mg "MOST_ROWS" (.int 6)
  c_MOST_TOLL : GC K mg "MOST_TOLL" (.int 99)
  c_MOST_WINDS : GC K mg "MOST_WINDS" (.int 8)
  c_TOLLS : GC K mg "TOLLS" (.int 5)
  x_InvalidChart : ExcD P w K mg base cl "InvalidChart" 2 fl_InvalidChart
  x_InvalidText : ExcD P w K mg base cl "InvalidText" 2 fl_InvalidText
  x_InvalidTop : ExcD P w K mg base cl "InvalidTop" 1 fl_InvalidTop
  x_InvalidWind : ExcD P w K mg base cl "InvalidWind" 1 fl_InvalidWind
  cls_Chart : ClsD K cl "Chart" fields_Chart
  g_Chart : mg "Chart" = some (.ref (cl "Chart"))
  cc_Chart_MOST_HOURS : CCon K mg cl "Chart" "MOST_HOURS" (.int 8)
  cc_Chart_MOST_ROWS : CCon K mg cl "Chart" "MOST_ROWS" (.int 6)
  g_SkyError : mg "SkyError" = some (.ref (cl "SkyError"))
  g_Missing : mg "Missing" = some (.ref (cl "Missing"))
  cat0 : ∀ n ∈ xnames, PySem.W.exmAny K (.ref (cl n)) [.ref (cl "SkyError"), .ref (cl "Missing")] = some true
  xf0 : ∀ n ∈ xnames, XfC K (cl n) ∧ noB K (cl n) xfields = true
theorem Gb.cat {P : Program} {w : World} {K : PySem.W.Frag} {mg : Str → Option Value} {base : Heap} {cl : Str → Addr} (G : Gb P w K mg base cl) {c : Wd} (h : c.cl = cl) : ∀ n ∈ xnames, PySem.W.exmAny K (.ref (c.cl n)) [.ref (cl "SkyError"), .ref (cl "Missing")] = some true := by
  rw [h]; exact G.cat0
theorem Gb.xf {P : Program} {w : World} {K : PySem.W.Frag} {mg : Str → Option Value} {base : Heap} {cl : Str → Addr} (G : Gb P w K mg base cl) {c : Wd} (h : c.cl = cl) {f : Str} (hf : f ∈ xfields) : ∀ n ∈ xnames, XfC K (c.cl n) ∧ PySem.W.findIn K (.ref (c.cl n)) f = some none := by
  rw [h]; exact fun n hn => ⟨(G.xf0 n hn).1, noB_ok (G.xf0 n hn).2 hf⟩
namespace Kw_read_parts_text
def g {α : Type} : List α → List α
  | [x0] => [x0]
  | l => l
theorem rel {α β : Type} (R : α → β → Prop) (a : List α) (b : List β) (h : a.length = 1) (p : Paired R a b) : Paired R (g a) (g b) := by
  match a, h with
  | [x0], _ =>
    cases p with
    | cons p0 q0 =>
      cases q0
      exact (.cons p0 .nil)
theorem relL (K : PySem.W.Frag) (w : Wd) (ds : List D) (vs : List V) (h : ds.length = 1) (r : RpL K w ds vs) : RpL K w (g ds) (g vs) := by
  match ds, h with
  | [x0], _ =>
    obtain ⟨v0, r0, rfl, h0, e⟩ := r
    obtain rfl : r0 = [] := e
    exact ⟨_, _, rfl, h0, rfl⟩
end Kw_read_parts_text
theorem bk_Kw_read_parts_text : ∀ (kV doc pm : Value) (an : Option Addr) (cdv ct : Value) (ws : List Value), ws.length = 1 → bindArgs (PySem.W.fnOf "read_parts" "read_parts" (defArgs s_read_parts) (defBody s_read_parts) (defScope s_read_parts) .none kV doc pm an cdv ct) ⟨[], (["text"] : List Str).zip ws⟩ = pure ((["text"] : List Str).zip (Kw_read_parts_text.g ws)) := fun _ _ _ _ _ _ ws hl => match ws, hl with | [_], _ => rfl
end K08
/-! What each def of this law promises, over data. -/
namespace K08
open PySem L2 DL HS
open SX (S)
/-! ### words -/
def isDig (c : Nat) : Bool := decide (48 ≤ c) && decide (c ≤ 57)
/-- a number as it is written -/
def canonB (w : List Nat) : Bool := w.all isDig && !w.isEmpty && !(decide (w.head? = some 48) && decide (w ≠ [48]))
def valL (w : List Nat) : Nat := NumText.digitsVal w
def numD (w : List Nat) : D := if w.length ≤ 9 ∧ canonB w = true then .int (valL w) else .non
def wordI (m : Nat) (w : List Nat) : Option D := if w = [m] then some .non else if canonB w = true ∧ w.length ≤ 2 then some (.int (valL w)) else none
def items (m : Nat) : List (List Nat) → Option (List D)
  | [] => some []
  | w :: ws => match wordI m w, items m ws with
    | some x, some xs => some (x :: xs)
    | _, _ => none
def sp1 (c : Nat) (l : List Nat) : List (List Nat) := TL.spl [c] 0 [] l
def txs (ws : List (List Nat)) : List D := ws.map fun w => .str (S w)
def topOf : List (List Nat) → Option Nat
  | [a, b] => if a = cChart ∧ canonB b = true ∧ b.length ≤ 2 ∧ b ≠ [48] then some (valL b) else none
  | _ => none
/-! ### one line -/
def rowStep (ws : List (List Nat)) (rows : List (List D)) (nw : Nat) : Sum Str (List D) := match items 46 ws with
  | none => .inl "form"
  | some xs => if 0 < nw ∨ ¬ (1 ≤ xs.length ∧ xs.length ≤ 6) then .inl "form" else if rows.length = 6 then .inl "many" else if ∃ r, rows.head? = some r ∧ xs.length ≠ r.length then .inl "uneven" else .inr xs
def windStep (ws : List (List Nat)) (rows : List (List D)) (nw : Nat) : Sum Str (List D) := match items 45 ws with
  | none => .inl "form"
  | some xs => if rows.length = 0 ∨ xs.length ≠ 5 then .inl "form" else if nw = 8 then .inl "many" else if water rows = false then .inl "land" else .inr xs
inductive Stp where
  | go (rows winds : List (List D)) (top : Nat)
  | bad (why : Str)
  | fin
open Classical in
noncomputable def stepL (k : Nat) (line : List Nat) (rows winds : List (List D)) (top : Nat) : Stp :=
  if k = 0 then (match topOf (sp1 32 line) with | some n => .go rows winds n | none => .bad "form")
  else if (sp1 32 line).head? = some cRow then (match rowStep (sp1 32 line).tail rows winds.length with | .inr xs => .go (rows ++ [xs]) winds top | .inl y => .bad y)
  else if (sp1 32 line).head? = some cWind then (match windStep (sp1 32 line).tail rows winds.length with | .inr xs => .go rows (winds ++ [xs]) top | .inl y => .bad y)
  else if line ≠ cEnd ∨ rows.length = 0 then .bad "form" else if water rows = false then .bad "land" else .fin
/-! ### a whole text -/
inductive Res where
  | err (k : Nat) (why : Str)
  | ok (rows winds : List (List D)) (top many : Nat)
noncomputable def runL (rest : List Nat) : Nat → List (List Nat) → List (List D) → List (List D) → Nat → Res
  | k, [], _, _, _ => .err k (if rest = [] then "missing" else "form")
  | k, l :: ls, rows, winds, top => match stepL k l rows winds top with
    | .go r w t => runL rest (k + 1) ls r w t
    | .bad y => .err k y
    | .fin => .ok rows winds top (k + 1)
def lastL (ps : List (List Nat)) : List Nat := ps.getLastD []
noncomputable def resOf (l : List Nat) : Res := runL (lastL (sp1 10 l)) 0 (sp1 10 l).dropLast [] [] 0
noncomputable def readOf (l : List Nat) : Res := match resOf l with
  | .err k y => .err k y
  | .ok rows winds top many => if (sp1 10 l).length = many + 1 ∧ lastL (sp1 10 l) = [] then .ok rows winds top many else .err many "form"
def eText (k : Int) (why : Str) : List (Str × D) := mkF D.str .non fl_InvalidText [.int k, .str why]
/-! ### the promises -/
def short (ws : List (List Nat)) : Prop := ws.length ≤ 50001 ∧ ∀ w ∈ ws, w.length ≤ 50000
def sp_number_in : DSp := fun ds M Q _ => ∃ w, ds = [.str (S w)] ∧ w.length ≤ 50000 ∧ Q (numD w) M
def sp_items_in : DSp := fun ds M Q _ => ∃ r m ws, ds = [.lst r (txs ws), .str (S [m])] ∧ (m = 46 ∨ m = 45) ∧ short ws ∧ (items m ws = none → Q .non M) ∧ ∀ xs, items m ws = some xs → ∀ a, M a = none → Q (.ref a) (setM M a (.lst xs))
def sp_read_top : DSp := fun ds M Q E => ∃ ws, ds = [.lst 0 (txs ws)] ∧ short ws ∧ (∀ n : Nat, topOf ws = some n → Q (.int n) M) ∧ (topOf ws = none → E "InvalidText" (eText 0 "form") M)
def sp_read_row : DSp := fun ds M Q E => ∃ (k : Nat) (w : List Nat) (ws : List (List Nat)) (R W : D) (rows : List (List D)) (wl : List D), ds = [.int k, .lst 0 (txs (w :: ws)), R, W] ∧ short ws ∧ rowsOf R rows ∧ seq W = some wl ∧
  (∀ why, rowStep ws rows wl.length = .inl why → E "InvalidText" (eText k why) M) ∧ ∀ xs, rowStep ws rows wl.length = .inr xs → ∀ a, M a = none → Q (.ref a) (setM M a (.lst xs))
def sp_read_wind : DSp := fun ds M Q E => ∃ (k : Nat) (w : List Nat) (ws : List (List Nat)) (R W : D) (rows : List (List D)) (wl : List D), ds = [.int k, .lst 0 (txs (w :: ws)), R, W] ∧ short ws ∧ rowsOf R rows ∧ rows.length ≤ 6 ∧ (∀ r ∈ rows, r.length ≤ 6) ∧ seq W = some wl ∧
  (∀ why, windStep ws rows wl.length = .inl why → E "InvalidText" (eText k why) M) ∧ ∀ xs, windStep ws rows wl.length = .inr xs → Q (.tup xs) M
/-- what is no string -/
def notStr (v : D) : Prop := v = .non ∨ (∃ b, v = .bl b) ∨ (∃ i, v = .int i) ∨ (∃ r xs, v = .lst r xs) ∨ ∃ xs, v = .tup xs
def sp_read_parts : DSp := fun ds M Q E => (∃ l, ds = [.str (S l)] ∧ l.length ≤ 50000 ∧ (sp1 10 l).length ≤ 16000 ∧ (∀ k why, resOf l = .err k why → E "InvalidText" (eText k why) M) ∧
  ∀ rows winds top many, resOf l = .ok rows winds top many → ∀ R W refs M', Parsed M M' R W refs rows winds → Q (.tup [.ref R, .ref W, .int top, .int many]) M') ∨ ∃ v, ds = [v] ∧ notStr v ∧ E "InvalidText" (eText 0 "form") M
def sp_Chart_read : DSp := fun ds M Q E => (∃ l, ds = [.str (S l)] ∧ l.length ≤ 50000 ∧ (sp1 10 l).length ≤ 16000 ∧ (∀ k why, readOf l = .err k why → E "InvalidText" (eText k why) M) ∧
  ∀ rows winds top many, readOf l = .ok rows winds top many → ∀ kvs, Q (chartD rows winds top kvs) M) ∨ ∃ v, ds = [v] ∧ notStr v ∧ E "InvalidText" (eText 0 "form") M
def casesL (h i g : List Nat) : List (List Nat × Nat × Str) := [
  (([] : List Nat), 0, ("missing" : Str)),
  (h, 1, ("missing" : Str)),
  ((h ++ i), 2, ("missing" : Str)),
  ((h ++ i ++ g), 3, ("missing" : Str)),
  (([101, 110, 100, 10] : List Nat), 0, ("form" : Str)),
  (i, 0, ("form" : Str)),
  ((h ++ g), 1, ("form" : Str)),
  ((h ++ ([101, 110, 100, 10] : List Nat)), 1, ("form" : Str)),
  ((h ++ h), 1, ("form" : Str)),
  (((h ++ i ++ g) ++ i), 3, ("form" : Str)),
  (((h ++ i ++ g) ++ ([101, 110, 100] : List Nat)), 3, ("form" : Str)),
  (((h ++ i ++ g) ++ ([101, 110, 100, 32, 10] : List Nat)), 3, ("form" : Str)),
  (((h ++ i ++ g) ++ ([101, 110, 100, 10, 10] : List Nat)), 4, ("form" : Str)),
  (((h ++ i ++ g) ++ ([101, 110, 100, 10, 101, 110, 100, 10] : List Nat)), 4, ("form" : Str)),
  (((h ++ i ++ g) ++ ([101, 110, 100, 10, 120] : List Nat)), 4, ("form" : Str)),
  (((h ++ i ++ g) ++ ([119, 105, 110, 100, 10, 101, 110, 100, 10] : List Nat)), 3, ("form" : Str)),
  ((h ++ ([114, 111, 119, 10] : List Nat)), 1, ("form" : Str)),
  ((h ++ ([114, 111, 119, 32, 10] : List Nat)), 1, ("form" : Str)),
  ((h ++ ([114, 111, 119, 32, 48, 32, 48, 32, 48, 32, 48, 32, 48, 32, 48, 32, 48, 10] : List Nat)), 1, ("form" : Str)),
  ((h ++ ([114, 111, 119, 32, 45, 10] : List Nat)), 1, ("form" : Str)),
  ((h ++ ([114, 111, 119, 32, 49, 48, 48, 10] : List Nat)), 1, ("form" : Str)),
  ((h ++ ([114, 111, 119, 32, 48, 48, 10] : List Nat)), 1, ("form" : Str)),
  ((h ++ ([114, 111, 119, 32, 43, 49, 10] : List Nat)), 1, ("form" : Str)),
  ((h ++ ([32, 114, 111, 119, 32, 48, 10] : List Nat)), 1, ("form" : Str)),
  (((h ++ (List.replicate 6 i).flatten) ++ i), 7, ("many" : Str)),
  (((h ++ (List.replicate 6 i).flatten) ++ ([114, 111, 119, 32, 48, 32, 48, 10] : List Nat)), 7, ("many" : Str)),
  (((h ++ (List.replicate 6 i).flatten) ++ ([114, 111, 119, 10] : List Nat)), 7, ("form" : Str)),
  (((h ++ i) ++ ([114, 111, 119, 32, 48, 32, 48, 10] : List Nat)), 2, ("uneven" : Str)),
  (((h ++ i) ++ ([114, 111, 119, 32, 46, 32, 46, 10, 101, 110, 100, 10] : List Nat)), 2, ("uneven" : Str)),
  ((((h ++ i) ++ (List.replicate 8 g).flatten) ++ g), 10, ("many" : Str)),
  ((((h ++ i) ++ (List.replicate 8 g).flatten) ++ ([119, 105, 110, 100, 32, 48, 10] : List Nat)), 10, ("form" : Str)),
  ((((h ++ i) ++ (List.replicate 8 g).flatten) ++ i), 10, ("form" : Str)),
  (((h ++ ([114, 111, 119, 32, 46, 10] : List Nat)) ++ g), 2, ("land" : Str)),
  ((h ++ ([114, 111, 119, 32, 46, 10, 101, 110, 100, 10] : List Nat)), 2, ("land" : Str)),
  (((h ++ (List.replicate 3 ([114, 111, 119, 32, 46, 10] : List Nat)).flatten) ++ ([119, 105, 110, 100, 32, 48, 10] : List Nat)), 4, ("form" : Str)),
  (((h ++ (List.replicate 6 ([114, 111, 119, 32, 46, 10] : List Nat)).flatten) ++ ([114, 111, 119, 32, 48, 10] : List Nat)), 7, ("many" : Str)),
  ((h ++ ([114, 111, 119, 32, 46, 10, 101, 110, 100] : List Nat)), 2, ("form" : Str)),
  (((h ++ i) ++ ([119, 105, 110, 100, 32, 48, 32, 48, 32, 48, 32, 48, 10] : List Nat)), 2, ("form" : Str)),
  (((h ++ i) ++ ([119, 105, 110, 100, 32, 48, 32, 48, 32, 48, 32, 48, 32, 46, 10] : List Nat)), 2, ("form" : Str)),
  (((h ++ i) ++ ([119, 105, 110, 100, 32, 48, 32, 48, 32, 48, 32, 48, 32, 48, 32, 48, 10] : List Nat)), 2, ("form" : Str)),
  (((h ++ i) ++ ([119, 105, 110, 100, 32, 48, 32, 48, 32, 32, 48, 32, 48, 10] : List Nat)), 2, ("form" : Str)),
  (((h ++ i) ++ ([119, 105, 110, 100, 32, 48, 32, 48, 32, 48, 32, 48, 32, 49, 48, 48, 10] : List Nat)), 2, ("form" : Str)),
  (h.dropLast, 0, ("form" : Str)),
  ((h ++ i.dropLast), 1, ("form" : Str))]
def caseD (c : List Nat × Nat × Str) : D := .tup [.str (S c.1), .tup [.int (c.2.1 : Nat), .str c.2.2]]
def headsL : List (List Nat) := [[99, 104, 97, 114, 116], [99, 104, 97, 114, 116, 32, 48], [99, 104, 97, 114, 116, 32, 49, 48, 48], [99, 104, 97, 114, 116, 32, 48, 57], [99, 104, 97, 114, 116, 32, 57, 32, 57], [99, 104, 97, 114, 116, 32, 32, 57], [99, 104, 97, 114, 116, 32, 45], [99, 104, 97, 114, 116, 32, 46], [67, 104, 97, 114, 116, 32, 57], [99, 104, 97, 114, 116, 57], [99, 104, 97, 114, 116, 32, 43, 57], [32, 99, 104, 97, 114, 116, 32, 57], [99, 104, 97, 114, 116, 32, 57, 32], [], [99, 104, 97, 114, 116, 32, 110, 105, 110, 101], [99, 104, 97, 114, 116, 32, 49, 101, 49], [99, 104, 97, 114, 116, 32, 57, 57, 57, 57, 57, 57, 57, 57, 57]]
def sp__law_cases : DSp := fun ds M Q _ => ∃ h i g, ds = [.str (S h), .str (S i), .str (S g)] ∧ h ≠ [] ∧ i ≠ [] ∧ h.length ≤ 60 ∧ i.length ≤ 60 ∧ g.length ≤ 60 ∧ Q (.lst 0 ((casesL h i g).map caseD)) M
def sp__law_heads : DSp := fun ds M Q _ => ds = [] ∧ Q (.lst 0 (txs (headsL.map (· ++ [10])))) M
def sp_law : DSp := spLaw
end K08
/-! The readings of the defs. Printed by a program of mine. -/
namespace K08
open PySem L2 DL HS
/- number_in(text); slots: 0:text 1:digit -/
def t_number_in_1 : DS := (dSeq (dIfS (dOr (dNot (dB (dCB allD (dCons (dLc (dIt (dVar 0)) (gNm 1) dYes (dOp inE (dVar 1) (dC (.str "0123456789"))) [1]) dNil)))) (dAnd (dB (dOp eqD (dOp ixE (dVar 0) (dC (.int 0))) (dC (.str "0")))) (dB (dOp neD (dVar 0) (dC (.str "0")))))) (dRet (dC .non)) dNext) (dRet (dCB intD (dCons (dVar 0) dNil))))
def t_number_in : DS := (dSeq (dIfS (dOr (dNot (dB (dCB isiD (dCons (dVar 0) (dCons (dC (.ty "str")) dNil))))) (dNot (dB (dChain leD leD (dC (.int 1)) (dCB lenD (dCons (dVar 0) dNil)) (dC (.int 9)))))) (dRet (dC .non)) dNext) t_number_in_1)
/- items_in(words, missing); slots: 0:words 1:missing 2:items 3:word 4:item -/
def t_items_in_1 : DS := (dSeq (dIfS (dAnd (dB (dOp neD (dVar 3) (dVar 1))) (dOr (dB (dOp isND (dVar 4) (dC .non))) (dB (dOp gtD (dVar 4) (dC (.int 99)))))) (dRet (dC .non)) dNext) (dDrop (dApp (dVar 2) (dVar 4))))
def t_items_in_2 : DS := (dSeq (dAsg (dIf (dB (dOp eqD (dVar 3) (dVar 1))) (dC .non) (dCall sp_number_in DX0 (dCons (dVar 3) dNil))) (gNm 4)) t_items_in_1)
def t_items_in_3 : DS := (dSeq (dFor (dIt (dVar 0)) (gNm 3) t_items_in_2) (dRet (dVar 2)))
def t_items_in : DS := (dSeq (dAsg (dLstO dNil) (gNm 2)) t_items_in_3)
/- read_top(words); slots: 0:words 1:top -/
def t_read_top_1 (E : DXK) : DS := (dSeq (dIfS (dOr (dB (dOp isND (dVar 1) (dC .non))) (dNot (dB (dChain leD leD (dC (.int 1)) (dVar 1) (dC (.int 99)))))) (dRaise E "InvalidText" 2 fl_InvalidText (dCons (dC (.int 0)) (dCons (dC (.str "form")) dNil))) dNext) (dRet (dVar 1)))
def t_read_top (E : DXK) : DS := (dSeq (dAsg (dIf (dAnd (dB (dOp eqD (dCB lenD (dCons (dVar 0) dNil)) (dC (.int 2)))) (dB (dOp eqD (dOp ixE (dVar 0) (dC (.int 0))) (dC (.str "chart"))))) (dCall sp_number_in DX0 (dCons (dOp ixE (dVar 0) (dC (.int 1))) dNil)) (dC .non)) (gNm 1)) (t_read_top_1 E))
/- read_row(at, words, rows, winds); slots: 0:at 1:words 2:rows 3:winds 4:items -/
def t_read_row_1 (E : DXK) : DS := (dSeq (dIfS (dAnd (dB (dOp gtD (dCB lenD (dCons (dVar 2) dNil)) (dC (.int 0)))) (dB (dOp neD (dCB lenD (dCons (dVar 4) dNil)) (dCB lenD (dCons (dOp ixE (dVar 2) (dC (.int 0))) dNil))))) (dRaise E "InvalidText" 2 fl_InvalidText (dCons (dVar 0) (dCons (dC (.str "uneven")) dNil))) dNext) (dRet (dVar 4)))
def t_read_row_2 (E : DXK) : DS := (dSeq (dIfS (dB (dOp eqD (dCB lenD (dCons (dVar 2) dNil)) (dC (.int 6)))) (dRaise E "InvalidText" 2 fl_InvalidText (dCons (dVar 0) (dCons (dC (.str "many")) dNil))) dNext) (t_read_row_1 E))
def t_read_row_3 (E : DXK) : DS := (dSeq (dIfS (dOr (dB (dOp gtD (dCB lenD (dCons (dVar 3) dNil)) (dC (.int 0)))) (dOr (dB (dOp isND (dVar 4) (dC .non))) (dNot (dB (dChain leD leD (dC (.int 1)) (dCB lenD (dCons (dVar 4) dNil)) (dC (.int 6))))))) (dRaise E "InvalidText" 2 fl_InvalidText (dCons (dVar 0) (dCons (dC (.str "form")) dNil))) dNext) (t_read_row_2 E))
def t_read_row (E : DXK) : DS := (dSeq (dAsg (dCall sp_items_in DX0 (dCons (dSl (dVar 1) (dPart (dC (.int 1))) dNoPart) (dCons (dC (.str ".")) dNil))) (gNm 4)) (t_read_row_3 E))
/- read_wind(at, words, rows, winds); slots: 0:at 1:words 2:rows 3:winds 4:items -/
def t_read_wind_1 (E : DXK) : DS := (dSeq (dIfS (dNot (dB (dCall sp_has_water DX0 (dCons (dVar 2) dNil)))) (dRaise E "InvalidText" 2 fl_InvalidText (dCons (dVar 0) (dCons (dC (.str "land")) dNil))) dNext) (dRet (dCB tupD (dCons (dFz (dVar 4)) dNil))))
def t_read_wind_2 (E : DXK) : DS := (dSeq (dIfS (dB (dOp eqD (dCB lenD (dCons (dVar 3) dNil)) (dC (.int 8)))) (dRaise E "InvalidText" 2 fl_InvalidText (dCons (dVar 0) (dCons (dC (.str "many")) dNil))) dNext) (t_read_wind_1 E))
def t_read_wind_3 (E : DXK) : DS := (dSeq (dIfS (dOr (dB (dOp eqD (dCB lenD (dCons (dVar 2) dNil)) (dC (.int 0)))) (dOr (dB (dOp isND (dVar 4) (dC .non))) (dB (dOp neD (dCB lenD (dCons (dVar 4) dNil)) (dC (.int 5)))))) (dRaise E "InvalidText" 2 fl_InvalidText (dCons (dVar 0) (dCons (dC (.str "form")) dNil))) dNext) (t_read_wind_2 E))
def t_read_wind (E : DXK) : DS := (dSeq (dAsg (dCall sp_items_in DX0 (dCons (dSl (dVar 1) (dPart (dC (.int 1))) dNoPart) (dCons (dC (.str "-")) dNil))) (gNm 4)) (t_read_wind_3 E))
/- read_parts(text); slots: 0:text 1:lines 2:rest 3:rows 4:winds 5:top 6:at 7:line 8:words -/
def t_read_parts_1 (E : DXK) : DS := (dIfS (dOr (dB (dOp neD (dVar 7) (dC (.str "end")))) (dB (dOp eqD (dCB lenD (dCons (dVar 3) dNil)) (dC (.int 0))))) (dRaise E "InvalidText" 2 fl_InvalidText (dCons (dVar 6) (dCons (dC (.str "form")) dNil))) (dIfS (dNot (dB (dCall (lendSp sp_has_water) DX0 (dCons (dVar 3) dNil)))) (dRaise E "InvalidText" 2 fl_InvalidText (dCons (dVar 6) (dCons (dC (.str "land")) dNil))) (dRet (dTup (dCons (dVar 3) (dCons (dVar 4) (dCons (dVar 5) (dCons (dOp addD (dVar 6) (dC (.int 1))) dNil))))))))
def t_read_parts_2 (E : DXK) : DS := (dIfS (dB (dOp eqD (dOp ixE (dVar 8) (dC (.int 0))) (dC (.str "row")))) (dDrop (dApp (dVar 3) (dCall (lendSp sp_read_row) E (dCons (dVar 6) (dCons (dVar 8) (dCons (dVar 3) (dCons (dVar 4) dNil))))))) (dIfS (dB (dOp eqD (dOp ixE (dVar 8) (dC (.int 0))) (dC (.str "wind")))) (dDrop (dApp (dVar 4) (dCall (lendSp sp_read_wind) E (dCons (dVar 6) (dCons (dVar 8) (dCons (dVar 3) (dCons (dVar 4) dNil))))))) (t_read_parts_1 E)))
def t_read_parts_3 (E : DXK) : DS := (dIfS (dB (dOp eqD (dVar 6) (dC (.int 0)))) (dAsg (dCall sp_read_top E (dCons (dVar 8) dNil)) (gNm 5)) (t_read_parts_2 E))
def t_read_parts_4 (E : DXK) : DS := (dSeq (dAsg (dM1 splitD (dVar 7) (dC (.str " "))) (gNm 8)) (t_read_parts_3 E))
def t_read_parts_5 (E : DXK) : DS := (dRaise E "InvalidText" 2 fl_InvalidText (dCons (dCB lenD (dCons (dVar 1) dNil)) (dCons (dIf (dB (dOp eqD (dVar 2) (dC (.str "")))) (dC (.str "missing")) (dC (.str "form"))) dNil)))
def t_read_parts_6 (E : DXK) : DS := (dSeq (dFor (dEnT (dCons (dVar 1) dNil)) (gTp (gsCons (gNm 6) (gsCons (gNm 7) gsNil)) 2) (t_read_parts_4 E)) (t_read_parts_5 E))
def t_read_parts_7 (E : DXK) : DS := (dSeq (dPar3 3 4 5 (dCons (dLstO dNil) (dCons (dLstO dNil) (dCons (dC (.int 0)) dNil)))) (t_read_parts_6 E))
def t_read_parts_8 (E : DXK) : DS := (dSeq (dAsg (dM1 splitD (dVar 0) (dC (.str "\n"))) (gStar 2 0 (gsCons (gNm 1) (gsCons (gNm 2) gsNil)))) (t_read_parts_7 E))
def t_read_parts (E : DXK) : DS := (dSeq (dIfS (dNot (dB (dCB isiD (dCons (dVar 0) (dCons (dC (.ty "str")) dNil))))) (dRaise E "InvalidText" 2 fl_InvalidText (dCons (dC (.int 0)) (dCons (dC (.str "form")) dNil))) dNext) (t_read_parts_8 E))
/- _law_cases(_law_head, _law_item, _law_gust); slots: 0:_law_head 1:_law_item 2:_law_gust 3:_law_good -/
def t__law_cases_1 : DS := (dRet (dLst (dCons (dTup (dCons (dC (.str "")) (dCons (dTup (dCons (dC (.int 0)) (dCons (dC (.str "missing")) dNil))) dNil))) (dCons (dTup (dCons (dVar 0) (dCons (dTup (dCons (dC (.int 1)) (dCons (dC (.str "missing")) dNil))) dNil))) (dCons (dTup (dCons (dOp addD (dVar 0) (dVar 1)) (dCons (dTup (dCons (dC (.int 2)) (dCons (dC (.str "missing")) dNil))) dNil))) (dCons (dTup (dCons (dVar 3) (dCons (dTup (dCons (dC (.int 3)) (dCons (dC (.str "missing")) dNil))) dNil))) (dCons (dTup (dCons (dC (.str "end\n")) (dCons (dTup (dCons (dC (.int 0)) (dCons (dC (.str "form")) dNil))) dNil))) (dCons (dTup (dCons (dVar 1) (dCons (dTup (dCons (dC (.int 0)) (dCons (dC (.str "form")) dNil))) dNil))) (dCons (dTup (dCons (dOp addD (dVar 0) (dVar 2)) (dCons (dTup (dCons (dC (.int 1)) (dCons (dC (.str "form")) dNil))) dNil))) (dCons (dTup (dCons (dOp addD (dVar 0) (dC (.str "end\n"))) (dCons (dTup (dCons (dC (.int 1)) (dCons (dC (.str "form")) dNil))) dNil))) (dCons (dTup (dCons (dOp addD (dVar 0) (dVar 0)) (dCons (dTup (dCons (dC (.int 1)) (dCons (dC (.str "form")) dNil))) dNil))) (dCons (dTup (dCons (dOp addD (dVar 3) (dVar 1)) (dCons (dTup (dCons (dC (.int 3)) (dCons (dC (.str "form")) dNil))) dNil))) (dCons (dTup (dCons (dOp addD (dVar 3) (dC (.str "end"))) (dCons (dTup (dCons (dC (.int 3)) (dCons (dC (.str "form")) dNil))) dNil))) (dCons (dTup (dCons (dOp addD (dVar 3) (dC (.str "end \n"))) (dCons (dTup (dCons (dC (.int 3)) (dCons (dC (.str "form")) dNil))) dNil))) (dCons (dTup (dCons (dOp addD (dVar 3) (dC (.str "end\n\n"))) (dCons (dTup (dCons (dC (.int 4)) (dCons (dC (.str "form")) dNil))) dNil))) (dCons (dTup (dCons (dOp addD (dVar 3) (dC (.str "end\nend\n"))) (dCons (dTup (dCons (dC (.int 4)) (dCons (dC (.str "form")) dNil))) dNil))) (dCons (dTup (dCons (dOp addD (dVar 3) (dC (.str "end\nx"))) (dCons (dTup (dCons (dC (.int 4)) (dCons (dC (.str "form")) dNil))) dNil))) (dCons (dTup (dCons (dOp addD (dVar 3) (dC (.str "wind\nend\n"))) (dCons (dTup (dCons (dC (.int 3)) (dCons (dC (.str "form")) dNil))) dNil))) (dCons (dTup (dCons (dOp addD (dVar 0) (dC (.str "row\n"))) (dCons (dTup (dCons (dC (.int 1)) (dCons (dC (.str "form")) dNil))) dNil))) (dCons (dTup (dCons (dOp addD (dVar 0) (dC (.str "row \n"))) (dCons (dTup (dCons (dC (.int 1)) (dCons (dC (.str "form")) dNil))) dNil))) (dCons (dTup (dCons (dOp addD (dVar 0) (dC (.str "row 0 0 0 0 0 0 0\n"))) (dCons (dTup (dCons (dC (.int 1)) (dCons (dC (.str "form")) dNil))) dNil))) (dCons (dTup (dCons (dOp addD (dVar 0) (dC (.str "row -\n"))) (dCons (dTup (dCons (dC (.int 1)) (dCons (dC (.str "form")) dNil))) dNil))) (dCons (dTup (dCons (dOp addD (dVar 0) (dC (.str "row 100\n"))) (dCons (dTup (dCons (dC (.int 1)) (dCons (dC (.str "form")) dNil))) dNil))) (dCons (dTup (dCons (dOp addD (dVar 0) (dC (.str "row 00\n"))) (dCons (dTup (dCons (dC (.int 1)) (dCons (dC (.str "form")) dNil))) dNil))) (dCons (dTup (dCons (dOp addD (dVar 0) (dC (.str "row +1\n"))) (dCons (dTup (dCons (dC (.int 1)) (dCons (dC (.str "form")) dNil))) dNil))) (dCons (dTup (dCons (dOp addD (dVar 0) (dC (.str " row 0\n"))) (dCons (dTup (dCons (dC (.int 1)) (dCons (dC (.str "form")) dNil))) dNil))) (dCons (dTup (dCons (dOp addD (dOp addD (dVar 0) (dOp mulE (dVar 1) (dC (.int 6)))) (dVar 1)) (dCons (dTup (dCons (dC (.int 7)) (dCons (dC (.str "many")) dNil))) dNil))) (dCons (dTup (dCons (dOp addD (dOp addD (dVar 0) (dOp mulE (dVar 1) (dC (.int 6)))) (dC (.str "row 0 0\n"))) (dCons (dTup (dCons (dC (.int 7)) (dCons (dC (.str "many")) dNil))) dNil))) (dCons (dTup (dCons (dOp addD (dOp addD (dVar 0) (dOp mulE (dVar 1) (dC (.int 6)))) (dC (.str "row\n"))) (dCons (dTup (dCons (dC (.int 7)) (dCons (dC (.str "form")) dNil))) dNil))) (dCons (dTup (dCons (dOp addD (dOp addD (dVar 0) (dVar 1)) (dC (.str "row 0 0\n"))) (dCons (dTup (dCons (dC (.int 2)) (dCons (dC (.str "uneven")) dNil))) dNil))) (dCons (dTup (dCons (dOp addD (dOp addD (dVar 0) (dVar 1)) (dC (.str "row . .\nend\n"))) (dCons (dTup (dCons (dC (.int 2)) (dCons (dC (.str "uneven")) dNil))) dNil))) (dCons (dTup (dCons (dOp addD (dOp addD (dOp addD (dVar 0) (dVar 1)) (dOp mulE (dVar 2) (dC (.int 8)))) (dVar 2)) (dCons (dTup (dCons (dC (.int 10)) (dCons (dC (.str "many")) dNil))) dNil))) (dCons (dTup (dCons (dOp addD (dOp addD (dOp addD (dVar 0) (dVar 1)) (dOp mulE (dVar 2) (dC (.int 8)))) (dC (.str "wind 0\n"))) (dCons (dTup (dCons (dC (.int 10)) (dCons (dC (.str "form")) dNil))) dNil))) (dCons (dTup (dCons (dOp addD (dOp addD (dOp addD (dVar 0) (dVar 1)) (dOp mulE (dVar 2) (dC (.int 8)))) (dVar 1)) (dCons (dTup (dCons (dC (.int 10)) (dCons (dC (.str "form")) dNil))) dNil))) (dCons (dTup (dCons (dOp addD (dOp addD (dVar 0) (dC (.str "row .\n"))) (dVar 2)) (dCons (dTup (dCons (dC (.int 2)) (dCons (dC (.str "land")) dNil))) dNil))) (dCons (dTup (dCons (dOp addD (dVar 0) (dC (.str "row .\nend\n"))) (dCons (dTup (dCons (dC (.int 2)) (dCons (dC (.str "land")) dNil))) dNil))) (dCons (dTup (dCons (dOp addD (dOp addD (dVar 0) (dOp mulE (dC (.str "row .\n")) (dC (.int 3)))) (dC (.str "wind 0\n"))) (dCons (dTup (dCons (dC (.int 4)) (dCons (dC (.str "form")) dNil))) dNil))) (dCons (dTup (dCons (dOp addD (dOp addD (dVar 0) (dOp mulE (dC (.str "row .\n")) (dC (.int 6)))) (dC (.str "row 0\n"))) (dCons (dTup (dCons (dC (.int 7)) (dCons (dC (.str "many")) dNil))) dNil))) (dCons (dTup (dCons (dOp addD (dVar 0) (dC (.str "row .\nend"))) (dCons (dTup (dCons (dC (.int 2)) (dCons (dC (.str "form")) dNil))) dNil))) (dCons (dTup (dCons (dOp addD (dOp addD (dVar 0) (dVar 1)) (dC (.str "wind 0 0 0 0\n"))) (dCons (dTup (dCons (dC (.int 2)) (dCons (dC (.str "form")) dNil))) dNil))) (dCons (dTup (dCons (dOp addD (dOp addD (dVar 0) (dVar 1)) (dC (.str "wind 0 0 0 0 .\n"))) (dCons (dTup (dCons (dC (.int 2)) (dCons (dC (.str "form")) dNil))) dNil))) (dCons (dTup (dCons (dOp addD (dOp addD (dVar 0) (dVar 1)) (dC (.str "wind 0 0 0 0 0 0\n"))) (dCons (dTup (dCons (dC (.int 2)) (dCons (dC (.str "form")) dNil))) dNil))) (dCons (dTup (dCons (dOp addD (dOp addD (dVar 0) (dVar 1)) (dC (.str "wind 0 0  0 0\n"))) (dCons (dTup (dCons (dC (.int 2)) (dCons (dC (.str "form")) dNil))) dNil))) (dCons (dTup (dCons (dOp addD (dOp addD (dVar 0) (dVar 1)) (dC (.str "wind 0 0 0 0 100\n"))) (dCons (dTup (dCons (dC (.int 2)) (dCons (dC (.str "form")) dNil))) dNil))) (dCons (dTup (dCons (dSl (dVar 0) dNoPart (dPart (dNeg (dC (.int 1))))) (dCons (dTup (dCons (dC (.int 0)) (dCons (dC (.str "form")) dNil))) dNil))) (dCons (dTup (dCons (dOp addD (dVar 0) (dSl (dVar 1) dNoPart (dPart (dNeg (dC (.int 1)))))) (dCons (dTup (dCons (dC (.int 1)) (dCons (dC (.str "form")) dNil))) dNil))) dNil))))))))))))))))))))))))))))))))))))))))))))))
def t__law_cases : DS := (dSeq (dAsg (dOp addD (dOp addD (dVar 0) (dVar 1)) (dVar 2)) (gNm 3)) t__law_cases_1)
/- _law_heads(); slots:  -/
def t__law_heads : DS := (dRet (dLst (dCons (dC (.str "chart\n")) (dCons (dC (.str "chart 0\n")) (dCons (dC (.str "chart 100\n")) (dCons (dC (.str "chart 09\n")) (dCons (dC (.str "chart 9 9\n")) (dCons (dC (.str "chart  9\n")) (dCons (dC (.str "chart -\n")) (dCons (dC (.str "chart .\n")) (dCons (dC (.str "Chart 9\n")) (dCons (dC (.str "chart9\n")) (dCons (dC (.str "chart +9\n")) (dCons (dC (.str " chart 9\n")) (dCons (dC (.str "chart 9 \n")) (dCons (dC (.str "\n")) (dCons (dC (.str "chart nine\n")) (dCons (dC (.str "chart 1e1\n")) (dCons (dC (.str "chart 999999999\n")) dNil)))))))))))))))))))
/- law(_law_script); slots: 0:_law_script 1:_law_bag_here 2:_law_item 3:_law_gust 4:_law_k 5:_law_head 6:_law_some 7:_law_text_z 8:_law_due 9:_law_behind 10:_law_told 11:_law_one 12:_law_asks 13:_law_odd -/
def y_law_1 (E2 : DXK) : DE := (dStat sp_Chart_read E2 1 0 (fun ds es => ds ++ es) (dCons (dVar 13) dNil) dNil)
def y_law_2 (E2 : DXK) : DE := (dFz (dCall sp_read_parts E2 (dCons (dVar 13) dNil)))
def y_law_3 (E2 : DXK) : DE := (dStat sp_Chart_read E2 1 0 (fun ds es => ds ++ es) (dCons (dVar 7) dNil) dNil)
def y_law_4 (E2 : DXK) : DE := (dStat sp_Chart_read E2 1 0 (fun ds es => ds ++ es) (dCons (dOp addD (dOp addD (dVar 11) (dVar 2)) (dC (.str "end\n"))) dNil) dNil)
def y_law_5 (E2 : DXK) : DE := (dFz (dCallK0 sp_read_parts E2 1 Kw_read_parts_text.g (dCons (dOp addD (dOp addD (dVar 11) (dVar 2)) (dC (.str "end\n"))) dNil)))
def t_law_1 (xn : List Str) (fs1 : List Addr) : DS := (dRet (dAndV (dOp eqD (dFld "Chart" "last" (dStat sp_Chart_read DX0 1 0 (fun ds es => ds ++ es) (dCons (dOp addD (dOp addD (dOp addD (dVar 5) (dVar 2)) (dOp mulE (dVar 3) (dC (.int 8)))) (dC (.str "end\n"))) dNil) dNil)) (dC (.int 8))) (dOp eqD (dFld "Chart" "last" (dStat sp_Chart_read DX0 1 0 (fun ds es => ds ++ es) (dCons (dOp addD (dOp addD (dVar 5) (dOp mulE (dVar 2) (dC (.int 6)))) (dC (.str "end\n"))) dNil) dNil)) (dC (.int 0)))))
def t_law_2 (xn : List Str) (fs1 : List Addr) : DS := (dSeq (dIfS (dNot (dB (dCall sp__law_same DX0 (dCons (dTries fs1 [(fun E2 => y_law_1 E2), (fun E2 => y_law_2 E2)] (TT__law_tries xn) (dVar 12)) (dCons (dOp mulE (dLst (dCons (dTup (dCons (dC (.str "no")) (dCons (dC (.str "InvalidText")) (dCons (dC (.int 0)) (dCons (dC (.str "form")) dNil))))) dNil)) (dC (.int 2))) dNil))))) (dRet (dC (.bl false))) dNext) (t_law_1 xn fs1))
def t_law_3 (xn : List Str) : DS := (dIfS (dOr (dAnd (dB (dVar 9)) (dNot (dB (dCall sp__law_same DX0 (dCons (dOp ixE (dOp ixE (dVar 10) (dC (.int 1))) (dC (.int 3))) (dCons (dC (.int 4)) dNil)))))) (dAnd (dNot (dB (dVar 9))) (dNot (dB (dCall sp__law_same DX0 (dCons (dVar 10) (dCons (dOp addD (dTup (dCons (dC (.str "no")) (dCons (dC (.str "InvalidText")) dNil))) (dVar 8)) dNil))))))) (dRet (dC (.bl false))) dNext)
def t_law_4 (xn : List Str) : DS := (dSeq (dAsg (dLam (TT__law_try xn) (fun E2 => (dFz (dCall sp_read_parts E2 (dCons (dVar 7) dNil))))) (gNm 10)) (t_law_3 xn))
def t_law_5 (xn : List Str) : DS := (dSeq (dAsg (dOp eqD (dSl (dVar 7) dNoPart (dPart (dOp addD (dCB lenD (dCons (dOp addD (dOp addD (dVar 5) (dVar 2)) (dVar 3)) dNil)) (dC (.int 4))))) (dOp addD (dOp addD (dOp addD (dVar 5) (dVar 2)) (dVar 3)) (dC (.str "end\n")))) (gNm 9)) (t_law_4 xn))
def t_law_6 (xn : List Str) : DS := (dSeq (dIfS (dNot (dB (dCall sp__law_same DX0 (dCons (dLam (TT__law_try xn) (fun E2 => y_law_3 E2)) (dCons (dOp addD (dTup (dCons (dC (.str "no")) (dCons (dC (.str "InvalidText")) dNil))) (dVar 8)) dNil))))) (dRet (dC (.bl false))) dNext) (t_law_5 xn))
def t_law_7 (xn : List Str) : DS := (dSeq (dAsg (dOp ixE (dVar 6) (dVar 4)) (gTp (gsCons (gNm 7) (gsCons (gNm 8) gsNil)) 2)) (t_law_6 xn))
def t_law_8 (xn : List Str) (fs1 : List Addr) : DS := (dIfS (dNot (dB (dCall sp__law_same DX0 (dCons (dTries fs1 [(fun E2 => y_law_4 E2), (fun E2 => y_law_5 E2)] (TT__law_tries xn) (dVar 12)) (dCons (dOp mulE (dLst (dCons (dTup (dCons (dC (.str "no")) (dCons (dC (.str "InvalidText")) (dCons (dC (.int 0)) (dCons (dC (.str "form")) dNil))))) dNil)) (dC (.int 2))) dNil))))) (dRet (dC (.bl false))) dNext)
def t_law_9 (xn : List Str) : DS := (dSeq (dAsg (dCall sp__law_pick DX0 (dCons (dVar 1) (dCons (dLst (dCons (dC .non) (dCons (dC (.int 0)) (dCons (dC (.bl true)) (dCons (dLst (dCons (dVar 5) dNil)) (dCons (dTup (dCons (dVar 5) (dCons (dVar 2) dNil))) (dCons (dLst (dCons (dC (.str "chart 9")) dNil)) (dCons (dC (.int 9)) dNil)))))))) dNil))) (gNm 13)) (dAsks 12 2 (fun fs1 => (t_law_2 xn fs1))))
def t_law_10 (xn : List Str) : DS := (dSeq (dFor (dIt (dCall sp__law_heads DX0 dNil)) (gNm 11) (dAsks 12 2 (fun fs1 => (t_law_8 xn fs1)))) (t_law_9 xn))
def t_law_11 (xn : List Str) : DS := (dSeq (dFor (dRng1 (dCons (dCB lenD (dCons (dVar 6) dNil)) dNil)) (gNm 4) (t_law_7 xn)) (t_law_10 xn))
def t_law_12 (xn : List Str) : DS := (dSeq (dAsg (dCall sp__law_cases DX0 (dCons (dVar 5) (dCons (dVar 2) (dCons (dVar 3) dNil)))) (gNm 6)) (t_law_11 xn))
def t_law_13 (xn : List Str) : DS := (dSeq (dAsg (dOp addD (dOp addD (dC (.str "chart ")) (dCB strE (dCons (dOp addD (dC (.int 1)) (dCall sp__law_draw DX0 (dCons (dVar 1) (dCons (dC (.int 99)) dNil)))) dNil))) (dC (.str "\n"))) (gNm 5)) (t_law_12 xn))
def t_law_14 (xn : List Str) : DS := (dSeq (dAsg (dOp addD (dM1 joinD (dC (.str " ")) (dOp addD (dLst (dCons (dC (.str "wind")) dNil)) (dLc (dRng1 (dCons (dC (.int 5)) dNil)) (gNm 4) dYes (dCall sp__law_pick DX0 (dCons (dVar 1) (dCons (dLst (dCons (dC (.str "-")) (dCons (dC (.str "0")) (dCons (dC (.str "99")) (dCons (dCB strE (dCons (dCall sp__law_draw DX0 (dCons (dVar 1) (dCons (dC (.int 100)) dNil))) dNil)) dNil))))) dNil))) [4]))) (dC (.str "\n"))) (gNm 3)) (t_law_13 xn))
def t_law_15 (xn : List Str) : DS := (dSeq (dAsg (dOp addD (dOp addD (dC (.str "row ")) (dCB strE (dCons (dCall sp__law_draw DX0 (dCons (dVar 1) (dCons (dC (.int 100)) dNil))) dNil))) (dC (.str "\n"))) (gNm 2)) (t_law_14 xn))
def t_law (xn : List Str) : DS := (dSeq (dAsg (dCall sp__law_bag DX0 (dCons (dVar 0) dNil)) (gNm 1)) (t_law_15 xn))
/- Chart_read(text); slots: 0:text 1:rows 2:winds 3:top 4:many -/
def t_Chart_read_1 (E : DXK) : DS := (dRet (dFz (dMake "Chart" sp_Chart___init__ E 2 1 (fun ds es => ds ++ es) (dCons (dVar 1) (dCons (dVar 2) dNil)) (dCons (dVar 3) dNil))))
def t_Chart_read_2 (E : DXK) : DS := (dSeq (dIfS (dOr (dB (dOp neD (dM1 countD (dVar 0) (dC (.str "\n"))) (dVar 4))) (dNot (dB (dM1 endswithD (dVar 0) (dC (.str "\n")))))) (dRaise E "InvalidText" 2 fl_InvalidText (dCons (dVar 4) (dCons (dC (.str "form")) dNil))) dNext) (t_Chart_read_1 E))
def t_Chart_read (E : DXK) : DS := (dSeq (dAsg (dFz (dCall sp_read_parts E (dCons (dVar 0) dNil))) (gTp (gsCons (gNm 1) (gsCons (gNm 2) (gsCons (gNm 3) (gsCons (gNm 4) gsNil)))) 4)) (t_Chart_read_2 E))
end K08
/-! The defs of this law keep their promises, over data: words. -/
namespace K08
open PySem L2 DL HS
open SX (S)
theorem val_snoc (u : List Nat) (d : Nat) : valL (u ++ [d]) = valL u * 10 + (d - 48) := by simp [valL, NumText.digitsVal, List.foldl_append]
theorem canon_num : ∀ (n : Nat) (w : List Nat), w.length = n → canonB w = true → w = TL.numL (valL w) ∧ (valL w = 0 → w = [48]) := by
  intro n
  induction n with
  | zero =>
    intro w hl h
    obtain rfl : w = [] := List.eq_nil_of_length_eq_zero hl
    simp [canonB] at h
  | succ n ih =>
    intro w hl h
    rcases List.eq_nil_or_concat w with rfl | ⟨u, d, rfl⟩
    · cases hl
    rw [List.concat_eq_append] at hl h ⊢
    have hn : u.length = n := by simpa using hl
    simp only [canonB, Bool.and_eq_true, List.all_append, List.all_cons, List.all_nil, Bool.and_true, Bool.not_eq_true'] at h
    obtain ⟨⟨⟨hu, hd⟩, _⟩, h0⟩ := h
    have hd' : 48 ≤ d ∧ d ≤ 57 := by simpa [isDig] using hd
    rw [val_snoc]
    cases u with
    | nil =>
      have e : valL [] = 0 := rfl
      rw [e]
      refine ⟨?_, fun z => ?_⟩
      · rw [TL.numL_lt (by omega)]; simp; omega
      · simp; omega
    | cons c u =>
      have hne : c :: u ++ [d] ≠ [48] := by simp
      have h48 : c ≠ 48 := fun z => by
        subst z
        simp at h0
      have hc : canonB (c :: u) = true := by
        simp only [canonB, hu, Bool.true_and, Bool.and_eq_true, Bool.not_eq_true']
        simp [h48]
      obtain ⟨e1, e2⟩ := ih (c :: u) hn hc
      have hv : 1 ≤ valL (c :: u) := by
        cases hz : valL (c :: u) with
        | zero => have := e2 hz; simp at this; exact absurd this.1 h48
        | succ k => omega
      refine ⟨?_, fun z => by omega⟩
      have hs := TL.numL_step (n := valL (c :: u) * 10 + (d - 48)) (by omega)
      rw [hs, show (valL (c :: u) * 10 + (d - 48)) / 10 = valL (c :: u) by omega, show (valL (c :: u) * 10 + (d - 48)) % 10 = d - 48 by omega, ← e1]
      congr 1
      simp; omega
theorem canon_eq {w : List Nat} (h : canonB w = true) : w = TL.numL (valL w) := (canon_num _ w rfl h).1
theorem canon_zero {w : List Nat} (h : canonB w = true) : valL w = 0 ↔ w = [48] := ⟨(canon_num _ w rfl h).2, fun e => by rw [e]; rfl⟩
theorem num_len3 {n : Nat} (h : 100 ≤ n) : 3 ≤ (TL.numL n).length := by
  rw [TL.numL_step (by omega), TL.numL_step (n := n / 10) (by omega)]
  have := TL.numL_ne (n / 10 / 10)
  have : 0 < (TL.numL (n / 10 / 10)).length := List.length_pos_iff.mpr this
  simp; omega
theorem canon_len {w : List Nat} (h : canonB w = true) : valL w ≤ 99 ↔ w.length ≤ 2 := by
  have e := canon_eq h
  constructor
  · intro z; rw [e]; exact (num_len z).2
  · intro z
    by_cases z2 : valL w ≤ 99
    · exact z2
    · have := num_len3 (n := valL w) (by omega)
      rw [← e] at this; omega
theorem int_canon {w : List Nat} (h : canonB w = true) (hl : w.length ≤ 9) : intText? (S w) = some ((valL w : Nat) : Int) := by
  have e := canon_eq h
  have h2 : (TL.numL (valL w)).length ≤ 9 := by rw [← e]; exact hl
  conv => lhs; rw [e]
  rw [← SX.num_S]
  exact TL.int_num (by omega)
theorem dig_sub (c : Nat) : subText ⟨#[c]⟩ (Str.ofString "0123456789") = isDig c := by
  have h : subText ⟨#[c]⟩ (Str.ofString "0123456789") = decide (c ∈ (Str.ofString "0123456789").cps.toList) := StrLaws.found_one _ c
  rw [h, show (Str.ofString "0123456789").cps.toList = [48, 49, 50, 51, 52, 53, 54, 55, 56, 57] by decide +kernel]
  rw [Bool.eq_iff_iff]
  simp [isDig]
  omega
theorem S_eqs {a b : List Nat} : (S a = S b) = (a = b) := propext ⟨SX.S_inj, fun h => by rw [h]⟩
theorem S_zero : (Str.ofString "0" : Str) = S [48] := by decide +kernel
theorem all_dig {w : List Nat} {M : Mu} {Q : DK} (hl : w.length ≤ 50000) (q : Q (.bl (w.all isDig)) M) : dCB allD (dCons (dLc (dIt (dVar 0)) (gNm 1) dYes (dOp inE (dVar 1) (dC (.str "0123456789"))) [1]) dNil) [some (.str (S w)), none] M Q := by
  simp only [dCB, dCons, dNil, dLc, dIt, dVar, List.getElem?_cons_zero, signs_S]
  refine compi_of (f := fun c => .bl (isDig c)) _ _ _ (fun c hc Q' h' => ?_) (by simp; omega) ?_
  · simp [wipeD, dctT, dig_sub]
    exact h'
  · refine ⟨w.map isDig, by simp, ?_⟩
    have : (w.map isDig).all id = w.all isDig := by simp
    rw [this]; exact q
theorem pure_number_in : ∀ ds M Q E, sp_number_in ds M Q E → ds.length = (["text"] : List Str).length ∧ t_number_in { nx := fun _ M' => Q .non M', rt := Q } (startD ["text", "digit"] ds) M := by
  rintro ds M Q E ⟨w, rfl, hl, q⟩
  refine ⟨rfl, ?_⟩
  simp [t_number_in, inst, tyN, isA, tyNames, S_len]
  refine ⟨by omega, ?_⟩
  by_cases h1 : 1 ≤ w.length
  · rw [if_pos (by omega)]
    by_cases h9 : w.length ≤ 9
    · rw [if_neg (by omega)]
      simp only [t_number_in_1, dSeq, dIfS, dOr, dNot, dB]
      refine all_dig hl ?_
      cases ha : w.all isDig with
      | false =>
        simp
        have e : numD w = .non := by simp [numD, canonB, ha]
        rw [← e]; exact q
      | true =>
        obtain ⟨c, u, rfl⟩ : ∃ c u, w = c :: u := by cases w with | nil => simp at h1 | cons c u => exact ⟨c, u, rfl⟩
        simp [dctT, S_len]
        refine ⟨by simp at h9; omega, ?_⟩
        rw [show atI (c :: u) 0 = some c by simp [atI, ixN]]
        simp only
        have ee : ({ cps := #[c] } : Str) = Str.ofString "0" ↔ c = 48 := by
          rw [S_zero]
          refine ⟨fun z => ?_, fun z => by rw [z]⟩
          have z1 := congrArg (fun x : Str => x.cps.toList) z
          have z2 : [c] = [48] := z1
          simpa using z2
        have e2 : S (c :: u) = Str.ofString "0" ↔ c :: u = [48] := by rw [S_zero]; exact ⟨SX.S_inj, congrArg S⟩
        have good : canonB (c :: u) = true → u.length ≤ 639 ∧ ∃ n, intText? (S (c :: u)) = some n ∧ Q (.int n) M := fun hc => by
          refine ⟨by simp at h9; omega, (valL (c :: u) : Nat), int_canon hc h9, ?_⟩
          have e : numD (c :: u) = .int (valL (c :: u) : Nat) := by unfold numD; rw [if_pos ⟨h9, hc⟩]
          rw [← e]; exact q
        by_cases hc : c = 48
        · rw [if_pos (ee.mpr hc)]
          by_cases hu : c :: u = [48]
          · rw [if_pos (e2.mpr hu)]
            exact good (by rw [hu]; rfl)
          · rw [if_neg (fun z => hu (e2.mp z))]
            have e : numD (c :: u) = .non := by
              unfold numD
              rw [if_neg]
              rintro ⟨_, z⟩
              simp [canonB, hc] at z
              subst hc
              exact hu (by rw [z.2])
            rw [← e]; exact q
        · rw [if_neg (fun z => hc (ee.mp z))]
          exact good (by simp [canonB, ha, hc])
    · rw [if_pos (by omega)]
      have e : numD w = .non := by simp only [numD]; rw [if_neg (by omega)]
      rw [← e]; exact q
  · rw [if_neg (by omega)]
    have e : numD w = .non := by
      have : w = [] := by cases w with | nil => rfl | cons c u => simp at h1
      subst this; rfl
    rw [← e]; exact q
end K08
/-! The defs of this law keep their promises, over data: the items of a line. -/
namespace K08
open PySem L2 DL HS
open SX (S)
theorem S_dot : (Str.ofString "." : Str) = S [46] := by decide +kernel
theorem S_dash : (Str.ofString "-" : Str) = S [45] := by decide +kernel
theorem eqS {a b : List Nat} : eqB (.str (S a)) (.str (S b)) = decide (a = b) := by
  have h : eqB (.str (S a)) (.str (S b)) = (S a == S b) := by simp [eqB, py, PyData.eqv]
  rw [h]; exact SX.S_beq_eq
theorem eqD_S {a b : List Nat} {M : Mu} {Q : DK} : eqD (.str (S a)) (.str (S b)) M Q = Q (.bl (decide (a = b))) M := by
  simp only [eqD, eqS]
  simp [eqOk, strPair]
theorem neD_S {a b : List Nat} {M : Mu} {Q : DK} : neD (.str (S a)) (.str (S b)) M Q = Q (.bl (!decide (a = b))) M := by
  simp only [neD, eqS]
  simp [eqOk, strPair]
theorem fzK_keep {Q : DK} {d : D} {M : Mu} (h : Q d M) : fzK Q d M := ⟨fun _ => False, by rw [rs_id, drop_id]; exact h⟩
theorem canon_not {m : Nat} (hm : m = 46 ∨ m = 45) : canonB [m] = false := by rcases hm with rfl | rfl <;> rfl
theorem items_toll {m : Nat} : ∀ {ws : List (List Nat)} {xs : List D}, items m ws = some xs → (∀ t ∈ xs, toll t) ∧ xs.length = ws.length
  | [], xs, h => by cases h; simp
  | w :: ws, xs, h => by
    unfold items at h
    split at h
    · rename_i x ys hx hy
      cases h
      obtain ⟨h1, h2⟩ := items_toll hy
      refine ⟨fun t ht => ?_, by simp [h2]⟩
      rcases List.mem_cons.mp ht with rfl | ht
      · unfold wordI at hx
        split at hx
        · cases hx; exact .inl rfl
        · split at hx
          · rename_i z
            cases hx
            exact .inr ⟨_, rfl, by omega, by have := (canon_len z.1).mpr z.2; omega⟩
          · cases hx
      · exact h1 t ht
    · cases h
/-- the loop over the words -/
theorem words_loop {W : D} {m : Nat} (hm : m = 46 ∨ m = 45) {M0 : Mu} {a : Addr} {Q : DK} {Z : DEnds} (hrt : Z.rt = Q) : ∀ (ws : List (List Nat)) (acc : List D) (o3 o4 : Option D), (∀ w ∈ ws, w.length ≤ 50000) → acc.length + ws.length ≤ 60000 →
    (items m ws = none → ∀ v, Q .non (setM M0 a v)) → (∀ xs, items m ws = some xs → ∀ o3 o4, Z.nx [some W, some (.str (S [m])), some (.ref a), o3, o4] (setM M0 a (.lst (acc ++ xs)))) →
    fori (gNm 3) t_items_in_2 (txs ws) Z [some W, some (.str (S [m])), some (.ref a), o3, o4] (setM M0 a (.lst acc))
  | [], acc, o3, o4, _, _, _, q => by
    have := q [] rfl o3 o4
    rw [List.append_nil] at this
    exact this
  | w :: ws, acc, o3, o4, hl, hn, qe, q => by
    have hw := hl w List.mem_cons_self
    simp only [List.length_cons] at hn
    have go : ∀ x o3 o4, wordI m w = some x → fori (gNm 3) t_items_in_2 (txs ws) Z [some W, some (.str (S [m])), some (.ref a), o3, o4] (setM M0 a (.lst (acc ++ [x]))) := fun x o3 o4 e => by
      refine words_loop hm hrt ws (acc ++ [x]) o3 o4 (fun y hy => hl y (List.mem_cons_of_mem _ hy)) (by simp; omega) (fun z v => qe (by simp [items, e, z]) v) fun xs z o3 o4 => ?_
      have := q (x :: xs) (by simp [items, e, z]) o3 o4
      simpa using this
    show t_items_in_2 _ [some W, some (.str (S [m])), some (.ref a), some (.str (S w)), o4] (setM M0 a (.lst acc))
    simp only [t_items_in_2, dSeq, dAsg, dIf, dB, dOp, dVar, dC, dCall, dCons, dNil, List.getElem?_cons_succ, List.getElem?_cons_zero, eqD_S, isB]
    by_cases h : w = [m]
    · rw [if_pos (by simpa using h)]
      simp only [gNm, List.set_cons_succ, List.set_cons_zero]
      simp only [t_items_in_1, dSeq, dIfS, dAnd, dB, dOp, dVar, dC, List.getElem?_cons_succ, List.getElem?_cons_zero, neD_S, isB]
      rw [if_neg (by simp [h]), if_neg (by simp)]
      simp only [dNext, dDrop, dApp, dVar, List.getElem?_cons_succ, List.getElem?_cons_zero, setM_same, setM_set]
      exact ⟨by omega, go .non _ _ (by simp [wordI, h])⟩
    · rw [if_neg (by simpa using h)]
      refine ⟨w, rfl, hw, ?_⟩
      simp only [gNm, List.set_cons_succ, List.set_cons_zero]
      simp only [t_items_in_1, dSeq, dIfS, dAnd, dOr, dB, dOp, dVar, dC, List.getElem?_cons_succ, List.getElem?_cons_zero, neD_S, isB, isND]
      rw [if_pos (by simpa using h)]
      have bad : wordI m w = none → Z.rt .non (setM M0 a (.lst acc)) := fun e => by rw [hrt]; exact qe (by simp [items, e]) _
      by_cases hc : w.length ≤ 9 ∧ canonB w = true
      · have e : numD w = .int (valL w : Nat) := by unfold numD; rw [if_pos hc]
        rw [e, if_neg (by simp [DL.isNon])]
        simp only [gtD, isB]
        by_cases h99 : valL w ≤ 99
        · rw [if_neg (by simp; omega)]
          simp only [dNext, dDrop, dApp, dVar, List.getElem?_cons_succ, List.getElem?_cons_zero, setM_same, setM_set]
          exact ⟨by omega, go _ _ _ (by simp [wordI, h, hc.2, (canon_len hc.2).mp h99])⟩
        · rw [if_pos (by simp; omega)]
          simp only [dRet, dC]
          exact bad (by simp only [wordI, if_neg h]; rw [if_neg (fun z => h99 ((canon_len hc.2).mpr z.2))])
      · have e : numD w = .non := by unfold numD; rw [if_neg hc]
        rw [e, if_pos (by simp [DL.isNon])]
        simp only [if_true, dRet, dC]
        exact bad (by simp only [wordI, if_neg h]; rw [if_neg (fun z => hc ⟨by omega, z.1⟩)])
theorem pure_items_in : ∀ ds M Q E, sp_items_in ds M Q E → ds.length = (["words", "missing"] : List Str).length ∧ t_items_in { nx := fun _ M' => fzK Q .non M', rt := fzK Q } (startD ["words", "missing", "items", "word", "item"] ds) M := by
  rintro ds M Q E ⟨r, m, ws, rfl, hm, hs, qe, q⟩
  refine ⟨rfl, ?_⟩
  simp only [t_items_in, dSeq, dAsg, dLstO, dNil, startD, List.map_cons, List.map_nil]
  refine ⟨by simp, fun a ha => ?_⟩
  simp only [gNm, List.set_cons_succ, List.set_cons_zero]
  simp only [t_items_in_3, dSeq, dFor, dIt, dVar, List.getElem?_cons_succ, List.getElem?_cons_zero]
  have ex : ∀ v, Ex M (setM M a v) := fun v => (Ex.refl M).set ha
  refine words_loop hm (Q := fzK Q) rfl ws [] none none hs.2 (by have := hs.1; simp; omega) (fun z v => ?_) (fun xs z o3 o4 => ?_)
  · refine fz_new (M0 := M) (ex v) ?_
    rw [rs_plain (k := 1) rfl]; exact qe z
  · simp only [dRet, dVar, List.getElem?_cons_succ, List.getElem?_cons_zero, List.nil_append]
    exact fzK_keep (q xs z a ha)
theorem any_ndig {w : List Nat} {M : Mu} {Q : DK} {o1 : Option D} (hl : w.length ≤ 50000) (q : Q (.bl (!w.all isDig)) M) : dCB anyD (dCons (dLc (dIt (dVar 0)) (gNm 2) dYes (dOp ninE (dVar 2) (dC (.str "0123456789"))) [2]) dNil) [some (.str (S w)), o1, none] M Q := by
  simp only [dCB, dCons, dNil, dLc, dIt, dVar, List.getElem?_cons_zero, signs_S]
  refine compi_of (f := fun c => .bl (!isDig c)) _ _ _ (fun c hc Q' h' => ?_) (by simp; omega) ?_
  · simp [wipeD, dctT, dig_sub]
    exact h'
  · refine ⟨w.map fun c => !isDig c, by simp, ?_⟩
    have : (w.map fun c => !isDig c).any id = !w.all isDig := by rw [Bool.eq_iff_iff]; simp
    rw [this]; exact q
end K08
/-! The defs of this law keep their promises, over data: the lines. -/
namespace K08
open PySem L2 DL HS
open SX (S)
theorem S_chart : (Str.ofString "chart" : Str) = S cChart := by decide +kernel
theorem S_row : (Str.ofString "row" : Str) = S cRow := by decide +kernel
theorem S_wind : (Str.ofString "wind" : Str) = S cWind := by decide +kernel
theorem S_end : (Str.ofString "end" : Str) = S cEnd := by decide +kernel
theorem S_nil : (Str.ofString "" : Str) = S [] := by decide +kernel
theorem ix0 {ws : List (List Nat)} {w : List Nat} {r : Nat} {M : Mu} {Q : DK} : ixE (.lst r (txs (w :: ws))) (.int 0) M Q = Q (.str (S w)) M := by simp [txs, dctT, atI, ixN]
theorem ix1 {ws : List (List Nat)} {w v : List Nat} {r : Nat} {M : Mu} {Q : DK} : ixE (.lst r (txs (w :: v :: ws))) (.int 1) M Q = Q (.str (S v)) M := by
  simp [txs, dctT, atI, ixN]
  rw [if_pos (by omega)]; rfl
theorem len_txs {ws : List (List Nat)} {r : Nat} {M : Mu} {Q : DK} : lenD [.lst r (txs ws)] M Q = Q (.int ws.length) M := by simp [txs, lenD]
theorem cut1 {ws : List (List Nat)} {w : List Nat} : cut (txs (w :: ws)) (some 1) none = txs ws := by
  unfold cut
  have e1 : HT.sIx (txs (w :: ws)).length 0 (some 1) = 1 := by
    have := HT.sIx_nat (n := (txs (w :: ws)).length) (d := 0) (k := 1)
    simp [txs] at this ⊢
    exact this
  rw [e1, HT.sIx_none]
  simp [txs]
  exact List.take_of_length_le (by simp)
theorem short.tail {w : List Nat} {ws : List (List Nat)} (h : short (w :: ws)) : short ws := ⟨by have := h.1; simp at this; omega, fun x hx => h.2 x (List.mem_cons_of_mem _ hx)⟩
theorem eqI {i j : Int} {M : Mu} {Q : DK} : eqD (.int i) (.int j) M Q = Q (.bl (decide (i = j))) M := by
  have : eqB (.int i) (.int j) = decide (i = j) := by simp [eqB, py, PyData.eqv]; rfl
  simp only [eqD, this]; simp [eqOk, strPair, pyN]
theorem neI {i j : Int} {M : Mu} {Q : DK} : neD (.int i) (.int j) M Q = Q (.bl (!decide (i = j))) M := by
  have : eqB (.int i) (.int j) = decide (i = j) := by simp [eqB, py, PyData.eqv]; rfl
  simp only [neD, this]; simp [eqOk, strPair, pyN]
theorem top_end {n : D} {W : Option D} {M : Mu} {Q : DK} {E : DXK} (h : n = .non ∧ E "InvalidText" (eText 0 "form") M ∨ ∃ k : Nat, n = .int k ∧ ((1 ≤ k ∧ k ≤ 99 → Q (.int k) M) ∧ (¬ (1 ≤ k ∧ k ≤ 99) → E "InvalidText" (eText 0 "form") M))) :
    t_read_top_1 E { nx := fun _ M' => Q .non M', rt := Q } [W, some n] M := by
  simp only [t_read_top_1, dSeq, dIfS, dOr, dNot, dB, dOp, dVar, dC, isND, isB, List.getElem?_cons_succ, List.getElem?_cons_zero]
  rcases h with ⟨rfl, h⟩ | ⟨k, rfl, h1, h2⟩
  · simp [DL.isNon]; exact h
  · simp [DL.isNon]
    by_cases hk : 1 ≤ k ∧ k ≤ 99
    · rw [if_pos (by omega), if_neg (by omega)]; exact h1 hk
    · by_cases hk1 : 1 ≤ k
      · rw [if_pos (by omega), if_pos (by omega)]; exact h2 hk
      · rw [if_neg (by omega)]; exact h2 hk
theorem pure_read_top : ∀ ds M Q E, sp_read_top ds M Q E → ds.length = (["words"] : List Str).length ∧ t_read_top E { nx := fun _ M' => Q .non M', rt := Q } (startD ["words", "top"] ds) M := by
  rintro ds M Q E ⟨ws, rfl, hs, q, qe⟩
  refine ⟨rfl, ?_⟩
  show t_read_top E _ [some (.lst 0 (txs ws)), none] M
  simp only [t_read_top, dSeq, dAsg, dIf, dAnd, dB, dOp, dCB, dCall, dCons, dNil, dVar, dC, gNm, List.getElem?_cons_zero, len_txs, eqI, isB]
  by_cases h2 : ws.length = 2
  · rw [if_pos (by simp; omega)]
    obtain ⟨a, b, rfl⟩ : ∃ a b, ws = [a, b] := by
      match ws, h2 with
      | [a, b], _ => exact ⟨a, b, rfl⟩
    rw [ix0, S_chart, eqD_S]
    simp only [isB]
    by_cases hc : a = cChart
    · rw [if_pos (by simpa using hc), ix1]
      refine ⟨b, rfl, hs.2 b (by simp), ?_⟩
      simp only [List.set_cons_succ, List.set_cons_zero]
      refine top_end ?_
      by_cases hn : b.length ≤ 9 ∧ canonB b = true
      · have e : numD b = .int (valL b : Nat) := by unfold numD; rw [if_pos hn]
        refine .inr ⟨_, e, fun hk => ?_, fun hk => ?_⟩
        · exact q _ (by simp only [topOf]; rw [if_pos ⟨hc, hn.2, (canon_len hn.2).mp hk.2, fun z => by have := (canon_zero hn.2).mpr z; omega⟩])
        · refine qe ?_
          simp only [topOf]
          rw [if_neg]
          rintro ⟨_, z1, z2, z3⟩
          have h1 := (canon_len z1).mpr z2
          have h0 : valL b ≠ 0 := fun z => z3 ((canon_zero z1).mp z)
          omega
      · have e : numD b = .non := by unfold numD; rw [if_neg hn]
        refine .inl ⟨e, qe ?_⟩
        simp only [topOf]
        rw [if_neg]
        rintro ⟨_, z1, z2, _⟩
        exact hn ⟨by omega, z1⟩
    · rw [if_neg (by simpa using hc)]
      simp only [List.set_cons_succ, List.set_cons_zero]
      exact top_end (.inl ⟨rfl, qe (by simp only [topOf]; rw [if_neg (fun z => hc z.1)])⟩)
  · rw [if_neg (by simp; omega)]
    rw [if_neg (by simp)]
    simp only [List.set_cons_succ, List.set_cons_zero]
    refine top_end (.inl ⟨rfl, qe ?_⟩)
    unfold topOf
    split
    · simp at h2
    · rfl
theorem len_ref {a : Addr} {xs : List D} {M : Mu} {Q : DK} (h : M a = some (.lst xs)) : lenD [.ref a] M Q = Q (.int xs.length) M := by simp [lenD, h]
theorem head_ix {R : D} {rows : List (List D)} {r : List D} {M : Mu} {Q : DK} (hR : rowsOf R rows) (h : rows.head? = some r) (q : ∀ d, seq d = some r → Q d M) : ixE R (.int 0) M Q := by
  obtain ⟨ds, e, hd⟩ := hR
  cases rows with
  | nil => cases h
  | cons r0 rs =>
    simp at h; subst h
    cases ds with
    | nil => cases hd
    | cons d ds =>
      simp only [List.map_cons, List.cons.injEq] at hd
      exact HS.ix_seq (m := 0) e rfl (q d hd.1)
theorem rows_len {R : D} {rows : List (List D)} {M : Mu} {Q : DK} (hR : rowsOf R rows) (q : Q (.int rows.length) M) : lenD [R] M Q := by
  obtain ⟨ds, e, hd⟩ := hR
  have hl : ds.length = rows.length := by have := congrArg List.length hd; simpa using this
  refine HS.len_seq e ?_
  rw [hl]; exact q
theorem raise_new {M : Mu} {a : Addr} {v : MO} {E : DXK} {k : Nat} {why : Str} (ha : M a = none) (h : E "InvalidText" (eText k why) M) : fzX E "InvalidText" (eText k why) (setM M a v) := by
  refine ⟨newIn M, ?_⟩
  rw [drop_new ((Ex.refl M).set ha)]
  exact h
theorem raise_same {M : Mu} {E : DXK} {k : Nat} {why : Str} (h : E "InvalidText" (eText k why) M) : fzX E "InvalidText" (eText k why) M := by
  refine ⟨newIn M, ?_⟩
  rw [drop_new (Ex.refl M)]
  exact h
theorem raise_txt {E : DXK} {k : Int} {why : Str} {M : Mu} {Z : DEnds} {ρ : DEnv} (h : E "InvalidText" (eText k why) M) : dRaise E "InvalidText" 2 fl_InvalidText (dCons (dVar 0) (dCons (dC (.str why)) dNil)) Z (some (.int k) :: ρ) M := by
  simp only [dRaise, dCons, dNil, dVar, dC, List.getElem?_cons_zero]
  exact ⟨⟨rfl, by decide⟩, h⟩
theorem pure_read_row : ∀ ds M Q E, sp_read_row ds M Q E → ds.length = (["at", "words", "rows", "winds"] : List Str).length ∧ t_read_row (fzX E) { nx := fun _ M' => fzK Q .non M', rt := fzK Q } (startD ["at", "words", "rows", "winds", "items"] ds) M := by
  rintro ds M Q E ⟨k, w, ws, R, W, rows, wl, rfl, hs, hR, hW, qe, q⟩
  refine ⟨rfl, ?_⟩
  show t_read_row (fzX E) _ [some (.int k), some (.lst 0 (txs (w :: ws))), some R, some W, none] M
  simp only [t_read_row, dSeq, dAsg, dCall, dCons, dNil, dSl, dPart, dNoPart, slD, dVar, dC, gNm, List.getElem?_cons_succ, List.getElem?_cons_zero, cut1]
  rw [S_dot]
  refine ⟨0, 46, ws, rfl, .inl rfl, hs, fun hi => ?_, fun xs hi a ha => ?_⟩
  · simp only [List.set_cons_succ, List.set_cons_zero]
    simp only [t_read_row_3, dSeq, dIfS, dOr, dNot, dB, dOp, dCB, dCons, dNil, dVar, dC, List.getElem?_cons_succ, List.getElem?_cons_zero]
    refine HS.len_seq hW ?_
    have er : rowStep ws rows wl.length = .inl "form" := by simp [rowStep, hi]
    have bad := qe _ er
    simp only [gtD, isB, isND, DL.isNon]
    have fin : dRaise (fzX E) "InvalidText" 2 fl_InvalidText (dCons (dVar 0) (dCons (dC (.str "form")) dNil)) { nx := t_read_row_2 (fzX E) { nx := fun _ M' => fzK Q .non M', rt := fzK Q }, rt := fzK Q } [some (.int k), some (.lst 0 (txs (w :: ws))), some R, some W, some .non] M := by
      simp only [dRaise, dCons, dNil, dVar, dC, List.getElem?_cons_zero]
      exact ⟨⟨rfl, by decide⟩, raise_same bad⟩
    split
    · simpa using fin
    · simpa using fin
  · simp only [List.set_cons_succ, List.set_cons_zero]
    obtain ⟨ht, hxl⟩ := items_toll hi
    have key : ∀ why, rowStep ws rows wl.length = .inl why → fzX E "InvalidText" (eText k why) (setM M a (.lst xs)) := fun why z => raise_new ha (qe why z)
    simp only [t_read_row_3, dSeq, dIfS, dOr, dNot, dB, dOp, dCB, dCons, dNil, dVar, dC, List.getElem?_cons_succ, List.getElem?_cons_zero]
    refine HS.len_seq hW ?_
    simp only [gtD, isB, isND, DL.isNon, dChain, dCB, dCons, dNil, dVar, dC, List.getElem?_cons_succ, List.getElem?_cons_zero, len_ref setM_same]
    simp only [leD, isB]
    by_cases hw : 0 < wl.length
    · rw [if_pos (by simpa using hw)]
      simp only [if_true]
      exact raise_txt (key "form" (by simp only [rowStep, hi]; rw [if_pos (.inl hw)]))
    · rw [if_neg (by simpa using hw), if_neg (by simp)]
      by_cases h1 : 1 ≤ xs.length
      · rw [if_pos (by simp; omega)]
        by_cases h6 : xs.length ≤ 6
        · rw [if_neg (by simp; omega)]
          have hf : ¬ (0 < wl.length ∨ ¬ (1 ≤ xs.length ∧ xs.length ≤ 6)) := by omega
          simp only [dNext, t_read_row_2, dSeq, dIfS, dB, dOp, dCB, dCons, dNil, dVar, dC, List.getElem?_cons_succ, List.getElem?_cons_zero]
          refine rows_len hR ?_
          rw [eqI]
          simp only [isB]
          by_cases hr6 : rows.length = 6
          · rw [if_pos (by simp; omega)]
            exact raise_txt (key "many" (by simp only [rowStep, hi]; rw [if_neg hf, if_pos hr6]))
          · rw [if_neg (by simp; omega)]
            simp only [dNext, t_read_row_1, dSeq, dIfS, dAnd, dB, dOp, dCB, dCons, dNil, dVar, dC, List.getElem?_cons_succ, List.getElem?_cons_zero]
            refine rows_len hR ?_
            simp only [gtD, isB]
            have done : (¬ ∃ r, rows.head? = some r ∧ xs.length ≠ r.length) → fzK Q (.ref a) (setM M a (.lst xs)) := fun hu => fzK_keep (q xs (by simp only [rowStep, hi]; rw [if_neg hf, if_neg hr6, if_neg hu]) a ha)
            cases hh : rows.head? with
            | none =>
              have : rows = [] := by simpa using hh
              subst this
              rw [if_neg (by simp), if_neg (by simp)]
              simp only [dNext, dRet, dVar, List.getElem?_cons_succ, List.getElem?_cons_zero]
              exact done (by simp)
            | some r0 =>
              have hne : rows ≠ [] := fun z => by subst z; cases hh
              rw [if_pos (by have := List.length_pos_iff.mpr hne; simp; omega)]
              rw [len_ref setM_same]
              refine head_ix hR hh fun d hd => HS.len_seq hd ?_
              rw [neI]
              simp only [isB]
              by_cases hx : xs.length = r0.length
              · rw [if_neg (by simp; omega)]
                simp only [dNext, dRet, dVar, List.getElem?_cons_succ, List.getElem?_cons_zero]
                exact done (by rw [hh]; rintro ⟨r, e, hr⟩; cases e; exact hr hx)
              · rw [if_pos (by simp; omega)]
                exact raise_txt (key "uneven" (by simp only [rowStep, hi]; rw [if_neg hf, if_neg hr6, if_pos ⟨r0, hh, hx⟩]))
        · rw [if_pos (by simp; omega)]
          exact raise_txt (key "form" (by simp only [rowStep, hi]; rw [if_pos (.inr (by omega))]))
      · rw [if_neg (by simp; omega), if_pos (by simp)]
        exact raise_txt (key "form" (by simp only [rowStep, hi]; rw [if_pos (.inr (by omega))]))
theorem pure_read_wind : ∀ ds M Q E, sp_read_wind ds M Q E → ds.length = (["at", "words", "rows", "winds"] : List Str).length ∧ t_read_wind (fzX E) { nx := fun _ M' => fzK Q .non M', rt := fzK Q } (startD ["at", "words", "rows", "winds", "items"] ds) M := by
  rintro ds M Q E ⟨k, w, ws, R, W, rows, wl, rfl, hs, hR, h6, hr6, hW, qe, q⟩
  refine ⟨rfl, ?_⟩
  show t_read_wind (fzX E) _ [some (.int k), some (.lst 0 (txs (w :: ws))), some R, some W, none] M
  simp only [t_read_wind, dSeq, dAsg, dCall, dCons, dNil, dSl, dPart, dNoPart, slD, dVar, dC, gNm, List.getElem?_cons_succ, List.getElem?_cons_zero, cut1]
  rw [S_dash]
  refine ⟨0, 45, ws, rfl, .inr rfl, hs, fun hi => ?_, fun xs hi a ha => ?_⟩
  · simp only [List.set_cons_succ, List.set_cons_zero]
    simp only [t_read_wind_3, dSeq, dIfS, dOr, dNot, dB, dOp, dCB, dCons, dNil, dVar, dC, List.getElem?_cons_succ, List.getElem?_cons_zero]
    refine rows_len hR ?_
    have bad := qe _ (show windStep ws rows wl.length = .inl "form" by simp [windStep, hi])
    rw [eqI]
    simp only [isB, isND, DL.isNon]
    split
    · simp only [if_true]; exact raise_txt (raise_same bad)
    · simp only [if_true]; exact raise_txt (raise_same bad)
  · simp only [List.set_cons_succ, List.set_cons_zero]
    obtain ⟨ht, hxl⟩ := items_toll hi
    have key : ∀ why, windStep ws rows wl.length = .inl why → fzX E "InvalidText" (eText k why) (setM M a (.lst xs)) := fun why z => raise_new ha (qe why z)
    simp only [t_read_wind_3, dSeq, dIfS, dOr, dNot, dB, dOp, dCB, dCons, dNil, dVar, dC, List.getElem?_cons_succ, List.getElem?_cons_zero]
    refine rows_len hR ?_
    rw [eqI]
    simp only [isB, isND, DL.isNon, len_ref setM_same, neI]
    by_cases hr0 : rows.length = 0
    · rw [if_pos (decide_eq_true (by omega))]
      simp only [if_true]
      exact raise_txt (key "form" (by simp only [windStep, hi]; rw [if_pos (.inl hr0)]))
    · rw [if_neg (by rw [decide_eq_true_eq]; omega), if_neg (by simp)]
      by_cases h5 : xs.length = 5
      · rw [if_neg (by simp; omega)]
        have hf : ¬ (rows.length = 0 ∨ xs.length ≠ 5) := by omega
        simp only [dNext, t_read_wind_2, dSeq, dIfS, dB, dOp, dCB, dCons, dNil, dVar, dC, List.getElem?_cons_succ, List.getElem?_cons_zero]
        refine HS.len_seq hW ?_
        rw [eqI]
        simp only [isB]
        by_cases h8 : wl.length = 8
        · rw [if_pos (by simp; omega)]
          exact raise_txt (key "many" (by simp only [windStep, hi]; rw [if_neg hf, if_pos h8]))
        · rw [if_neg (by simp; omega)]
          simp only [dNext, t_read_wind_1, dSeq, dIfS, dNot, dB, dCall, dCons, dNil, dVar, List.getElem?_cons_succ, List.getElem?_cons_zero]
          refine ⟨R, rows, rfl, hR, by omega, fun r hr => by have := hr6 r hr; omega, ?_⟩
          cases hwt : water rows with
          | false =>
            simp only [isB, Bool.not_false, if_true]
            exact raise_txt (key "land" (by simp only [windStep, hi]; rw [if_neg hf, if_neg h8, if_pos hwt]))
          | true =>
            simp only [isB, Bool.not_true, Bool.false_eq_true, if_false, dNext, dRet, dCB, dCons, dNil, dFz, dVar, List.getElem?_cons_succ, List.getElem?_cons_zero]
            refine fz_new (M0 := M) ((Ex.refl M).set ha) ?_
            rw [rs_lstO (n := 8) ha setM_same, map_same fun t ht' => rs_toll (ht t ht')]
            simp only [tupD]
            exact fzK_keep (q xs (by simp only [windStep, hi]; rw [if_neg hf, if_neg h8, if_neg (by rw [hwt]; simp)]))
      · rw [if_pos (by simp; omega)]
        exact raise_txt (key "form" (by simp only [windStep, hi]; rw [if_pos (.inr h5)]))
end K08
/-! The defs of this law keep their promises, over data: a text is read. -/
namespace K08
open PySem L2 DL HS
open SX (S)
theorem spl_all {c : Nat} : ∀ (l acc : List Nat), TL.spl [c] 0 acc l ≠ [] ∧ (TL.spl [c] 0 acc l).length ≤ l.length + 1 ∧ (∀ p ∈ TL.spl [c] 0 acc l, p.length ≤ acc.length + l.length) ∧ TL.joinL [c] (TL.spl [c] 0 acc l) = acc ++ l
  | [], acc => by rw [TL.spl_nil]; simp [TL.joinL]
  | d :: r, acc => by
    by_cases h : TL.pre [c] (d :: r) = true
    · have hd : d = c := by simp [TL.pre] at h; exact h
      rw [TL.spl_hit h]
      obtain ⟨h1, h2, h3, h4⟩ := spl_all (c := c) r []
      simp only [List.length_singleton, Nat.sub_self]
      refine ⟨by simp, by simp; omega, fun p hp => ?_, ?_⟩
      · rcases List.mem_cons.mp hp with rfl | hp
        · simp
        · have := h3 p hp; simp at this ⊢; omega
      · cases e : TL.spl [c] 0 [] r with
        | nil => exact absurd e h1
        | cons q qs =>
          rw [e] at h4
          simp only [TL.joinL]
          rw [h4, hd]; simp
    · have h' : TL.pre [c] (d :: r) = false := by simpa using h
      rw [TL.spl_miss h']
      obtain ⟨h1, h2, h3, h4⟩ := spl_all (c := c) r (acc ++ [d])
      refine ⟨h1, by simp; omega, fun p hp => ?_, by rw [h4]; simp⟩
      have := h3 p hp; simp at this ⊢; omega
theorem sp1_ne (c : Nat) (l : List Nat) : sp1 c l ≠ [] := (spl_all l []).1
theorem sp1_short {c : Nat} {l : List Nat} (h : l.length ≤ 50000) : short (sp1 c l) := ⟨by have := (spl_all (c := c) l []).2.1; unfold sp1; omega, fun p hp => by have := (spl_all (c := c) l []).2.2.1 p hp; simp at this; omega⟩
theorem sp1_join (c : Nat) (l : List Nat) : TL.joinL [c] (sp1 c l) = l := (spl_all l []).2.2.2
theorem split_sp (l : List Nat) : (Txt.split (S l) (Str.ofString " ")).map D.str = txs (sp1 32 l) := by
  rw [show Txt.split (S l) (Str.ofString " ") = (TL.spl [32] 0 [] l).map S from SX.split_S (a := l) (b := [32]) (by simp) (by decide)]
  simp [txs, sp1, List.map_map, Function.comp_def]
theorem split_nl (l : List Nat) : (Txt.split (S l) (Str.ofString "\n")).map D.str = txs (sp1 10 l) := by
  rw [show Txt.split (S l) (Str.ofString "\n") = (TL.spl [10] 0 [] l).map S from SX.split_S (a := l) (b := [10]) (by simp) (by decide)]
  simp [txs, sp1, List.map_map, Function.comp_def]
/-- what stands while a text is read -/
structure Sta (rows winds : List (List D)) : Prop where
  r6 : rows.length ≤ 6
  rt : ∀ r ∈ rows, ∀ t ∈ r, toll t
  rl : ∀ r ∈ rows, r.length ≤ 6
  wg : ∀ g ∈ winds, gust g
  w8 : winds.length ≤ 8
theorem Sta.row {rows winds : List (List D)} {ws : List (List Nat)} {nw : Nat} {xs : List D} (s : Sta rows winds) (h : rowStep ws rows nw = .inr xs) : Sta (rows ++ [xs]) winds ∧ (∀ t ∈ xs, toll t) := by
  unfold rowStep at h
  cases e : items 46 ws with
  | none => rw [e] at h; cases h
  | some ys =>
    rw [e] at h
    simp only at h
    split at h
    · cases h
    · rename_i hf
      split at h
      · cases h
      · rename_i h6
        split at h
        · cases h
        · cases h
          have ht := (items_toll e).1
          have := s.r6
          refine ⟨⟨by simp; omega, fun r hr => ?_, fun r hr => ?_, s.wg, s.w8⟩, ht⟩
          · simp at hr; rcases hr with hr | rfl; exact s.rt r hr; exact ht
          · simp at hr; rcases hr with hr | rfl; exact s.rl r hr; omega
theorem Sta.wind {rows winds : List (List D)} {ws : List (List Nat)} {xs : List D} (s : Sta rows winds) (h : windStep ws rows winds.length = .inr xs) : Sta rows (winds ++ [xs]) ∧ gust xs := by
  unfold windStep at h
  cases e : items 45 ws with
  | none => rw [e] at h; cases h
  | some ys =>
    rw [e] at h
    simp only at h
    split at h
    · cases h
    · rename_i hf
      split at h
      · cases h
      · rename_i h8
        split at h
        · cases h
        · cases h
          have ht := (items_toll e).1
          have := s.w8
          have hg : gust xs := ⟨by omega, ht⟩
          refine ⟨⟨s.r6, s.rt, s.rl, fun g hg' => ?_, by simp; omega⟩, hg⟩
          simp at hg'; rcases hg' with hg' | rfl; exact s.wg g hg'; exact hg
theorem ld_txs {M : Mu} {lent : Addr → Prop} {r n : Nat} {ws : List (List Nat)} : ld M lent r (n + 2) (.lst 0 (txs ws)) = .lst 0 (txs ws) := by
  rw [ld]
  congr 1
  refine map_same fun t ht => ?_
  simp [txs] at ht
  obtain ⟨x, _, rfl⟩ := ht
  rfl
theorem raise_at {E : DXK} {k : Int} {why : Str} {M : Mu} {Z : DEnds} {a0 a1 a2 a3 a4 a5 a7 a8 : Option D} (h : E "InvalidText" (eText k why) M) : dRaise E "InvalidText" 2 fl_InvalidText (dCons (dVar 6) (dCons (dC (.str why)) dNil)) Z [a0, a1, a2, a3, a4, a5, some (.int k), a7, a8] M := by
  simp only [dRaise, dCons, dNil, dVar, dC, List.getElem?_cons_succ, List.getElem?_cons_zero]
  exact ⟨⟨rfl, by decide⟩, h⟩
section
variable {M M' : Mu} {R W : Addr} {refs : List Addr} {rows winds : List (List D)} {T L rest : Option D} {top k : Nat} {line : List Nat} {E : DXK} {Z : DEnds} {o8 : Option D}
theorem one_line (hp : Parsed M M' R W refs rows winds) (s : Sta rows winds) (hl : line.length ≤ 50000)
    (qb : ∀ why M', stepL k line rows winds top = .bad why → Ex M M' → E "InvalidText" (eText k why) M')
    (qf : stepL k line rows winds top = .fin → Z.rt (.tup [.ref R, .ref W, .int top, .int (k + 1)]) M')
    (qg : ∀ rows' winds' top' refs' M'' o8, stepL k line rows winds top = .go rows' winds' top' → Parsed M M'' R W refs' rows' winds' → Sta rows' winds' → Z.nx [T, L, rest, some (.ref R), some (.ref W), some (.int top'), some (.int k), some (.str (S line)), o8] M'') :
    t_read_parts_4 E Z [T, L, rest, some (.ref R), some (.ref W), some (.int top), some (.int k), some (.str (S line)), o8] M' := by
  simp only [t_read_parts_4, dSeq, dAsg, dM1, dVar, dC, splitD, gNm, List.getElem?_cons_succ, List.getElem?_cons_zero]
  refine ⟨by decide +kernel, by rw [S_len]; omega, ?_⟩
  rw [split_sp]
  have hs := sp1_short (c := 32) hl
  obtain ⟨w0, wt, ew⟩ : ∃ w0 wt, sp1 32 line = w0 :: wt := by
    cases e : sp1 32 line with
    | nil => exact absurd e (sp1_ne 32 line)
    | cons a b => exact ⟨a, b, rfl⟩
  rw [ew] at hs ⊢
  have wt' : ∀ x ∈ winds, ∀ t ∈ x, toll t := fun x hx => (s.wg x hx).2
  simp only [List.set_cons_succ, List.set_cons_zero]
  simp only [t_read_parts_3, dIfS, dB, dOp, dVar, dC, isB, eqI, List.getElem?_cons_succ, List.getElem?_cons_zero]
  by_cases hk : k = 0
  · rw [if_pos (decide_eq_true (by omega))]
    simp only [dAsg, dCall, dCons, dNil, dVar, gNm, List.getElem?_cons_succ, List.getElem?_cons_zero]
    refine ⟨w0 :: wt, rfl, hs, fun n hn => ?_, fun hn => ?_⟩
    · simp only [List.set_cons_succ, List.set_cons_zero]
      exact qg rows winds n refs M' _ (by unfold stepL; rw [if_pos hk, ew, hn]) hp s
    · have := qb "form" M' (by unfold stepL; rw [if_pos hk, ew, hn]) hp.ex
      rw [hk] at this; exact this
  · rw [if_neg (by rw [decide_eq_true_eq]; omega)]
    simp only [t_read_parts_2, dIfS, dB, dOp, dVar, dC, isB, List.getElem?_cons_succ, List.getElem?_cons_zero, ix0]
    rw [S_row, eqD_S]
    simp only [isB]
    by_cases hrow : w0 = cRow
    · rw [if_pos (decide_eq_true hrow)]
      have est : stepL k line rows winds top = (match rowStep wt rows winds.length with | .inr xs => .go (rows ++ [xs]) winds top | .inl y => .bad y) := by
        unfold stepL
        rw [if_neg hk, ew, if_pos (by simp [hrow])]; rfl
      simp only [dDrop, dApp, dCall, dCons, dNil, dVar, List.getElem?_cons_succ, List.getElem?_cons_zero, hp.r]
      refine ⟨lnt R W refs, hp.lok, fun r hr hno hnl => ?_⟩
      simp only [List.map_cons, List.map_nil, hp.ldR s.rt, hp.ldW wt', ld_txs (n := 7)]
      refine ⟨k, w0, wt, rowsD r rows, windsD r winds, rows, winds.map .tup, rfl, hs.tail, rowsOf_D, rfl, fun why z => ?_, fun xs z a ha => ?_⟩
      · rw [List.length_map] at z
        rw [z] at est
        intro hl3
        refine ⟨rfl, fun x m e => hno x m (drop_some e), ?_⟩
        rw [back_drop]
        exact qb why M' est hp.ex
      · rw [List.length_map] at z
        rw [z] at est
        intro hl3
        obtain ⟨s', ht⟩ := s.row z
        have nla : ¬ lnt R W refs a := fun y => by have := hl3 a y; rw [setM_same] at this; cases this
        have ha' : M' a = none := by unfold drop at ha; rw [if_neg nla] at ha; exact ha
        obtain ⟨n1, n2, n3, n4⟩ := hp.new ha'
        refine ⟨rfl, fun x m e => ?_, ?_⟩
        · by_cases hxa : x = a
          · subst hxa; rw [setM_same] at e; cases e; exact noRL_toll ht
          · rw [setM_ne hxa] at e; exact hno x m (drop_some e)
        · rw [back_set nla, setM_ne n1.symm, hp.r]
          simp only
          refine ⟨by rw [List.length_map, hp.ln]; have := s.r6; omega, ?_⟩
          exact qg _ _ _ _ _ _ est (hp.row (xs := xs) ha') s'
    · rw [if_neg (by rw [decide_eq_true_eq]; exact hrow), S_wind]
      simp only [dIfS, dB, dOp, dVar, dC, isB, List.getElem?_cons_succ, List.getElem?_cons_zero, ix0, eqD_S]
      by_cases hwind : w0 = cWind
      · rw [if_pos (decide_eq_true hwind)]
        have est : stepL k line rows winds top = (match windStep wt rows winds.length with | .inr xs => .go rows (winds ++ [xs]) top | .inl y => .bad y) := by
          unfold stepL
          rw [if_neg hk, ew, if_neg (by simpa using hrow), if_pos (by simp [hwind])]; rfl
        simp only [dDrop, dApp, dCall, dCons, dNil, dVar, List.getElem?_cons_succ, List.getElem?_cons_zero, hp.w]
        refine ⟨lnt R W refs, hp.lok, fun r hr hno hnl => ?_⟩
        simp only [List.map_cons, List.map_nil, hp.ldR s.rt, hp.ldW wt', ld_txs (n := 7)]
        refine ⟨k, w0, wt, rowsD r rows, windsD r winds, rows, winds.map .tup, rfl, hs.tail, rowsOf_D, s.r6, s.rl, rfl, fun why z => ?_, fun xs z => ?_⟩
        · rw [List.length_map] at z
          rw [z] at est
          intro hl3
          refine ⟨rfl, fun x m e => hno x m (drop_some e), ?_⟩
          rw [back_drop]
          exact qb why M' est hp.ex
        · rw [List.length_map] at z
          rw [z] at est
          intro hl3
          obtain ⟨s', hg⟩ := s.wind z
          refine ⟨noRL_toll hg.2, fun x m e => hno x m (drop_some e), ?_⟩
          rw [back_drop, hp.w]
          simp only
          refine ⟨by rw [List.length_map]; have := s.w8; omega, ?_⟩
          exact qg _ _ _ _ _ _ est (hp.wind (xs := xs)) s'
      · rw [if_neg (by rw [decide_eq_true_eq]; exact hwind)]
        have est : stepL k line rows winds top = (if line ≠ cEnd ∨ rows.length = 0 then .bad "form" else if water rows = false then .bad "land" else .fin) := by
          unfold stepL
          rw [if_neg hk, ew, if_neg (by simpa using hrow), if_neg (by simpa using hwind)]
        simp only [t_read_parts_1, dIfS, dOr, dB, dOp, dCB, dCons, dNil, dVar, dC, List.getElem?_cons_succ, List.getElem?_cons_zero]
        rw [S_end, neD_S]
        simp only [isB]
        by_cases hend : line = cEnd
        · rw [if_neg (by simp [hend])]
          rw [len_ref hp.r, eqI]
          simp only [isB, List.length_map, hp.ln]
          by_cases hr0 : rows.length = 0
          · rw [if_pos (decide_eq_true (by omega))]
            exact raise_at (qb "form" M' (by rw [est, if_pos (.inr hr0)]) hp.ex)
          · rw [if_neg (by rw [decide_eq_true_eq]; omega)]
            simp only [dIfS, dNot, dB, dCall, dCons, dNil, dVar, List.getElem?_cons_succ, List.getElem?_cons_zero]
            refine ⟨lnt R W refs, hp.lok, fun r hr hno hnl => ?_⟩
            simp only [List.map_cons, List.map_nil, hp.ldR s.rt]
            refine ⟨rowsD r rows, rows, rfl, rowsOf_D, by have := s.r6; omega, fun x hx => by have := s.rl x hx; omega, fun hl3 => ?_⟩
            refine ⟨rfl, fun x m e => hno x m (drop_some e), ?_⟩
            rw [back_drop]
            cases hwt : water rows with
            | false =>
              simp only [isB, Bool.not_false, if_true]
              exact raise_at (qb "land" M' (by rw [est, if_neg (by simp [hend]; intro z; subst z; simp at hr0), if_pos hwt]) hp.ex)
            | true =>
              simp only [isB, Bool.not_true, Bool.false_eq_true, if_false, dRet, dTup, dCons, dNil, dOp, dVar, dC, addD, List.getElem?_cons_succ, List.getElem?_cons_zero]
              exact ⟨by simp, qf (by rw [est, if_neg (by simp [hend]; intro z; subst z; simp at hr0), if_neg (by rw [hwt]; simp)])⟩
        · rw [if_pos (by simp [hend])]
          simp only [if_true]
          exact raise_at (qb "form" M' (by rw [est, if_pos (.inl hend)]) hp.ex)
end
end K08
/-! The defs of this law keep their promises, over data: a text is read. -/
namespace K08
open PySem L2 DL HS
open SX (S)
theorem lines_loop {M : Mu} {R W : Addr} {T L rs : Option D} {rest : List Nat} {res : Res} {total : Nat} {E : DXK} {Z : DEnds}
    (qe : ∀ (j : Nat) why M', res = .err j why → Ex M M' → E "InvalidText" (eText j why) M')
    (qo : ∀ rows winds top many refs M', res = .ok rows winds top many → Parsed M M' R W refs rows winds → Z.rt (.tup [.ref R, .ref W, .int (top : Nat), .int (many : Nat)]) M')
    (qn : ∀ tp o6 o7 o8 M', res = .err total (if rest = [] then "missing" else "form") → Ex M M' → Z.nx [T, L, rs, some (.ref R), some (.ref W), some tp, o6, o7, o8] M') :
    ∀ (ls : List (List Nat)) (k : Nat) (rows winds : List (List D)) (top : Nat) (refs : List Addr) (M' : Mu) (o6 o7 o8 : Option D), runL rest k ls rows winds top = res → k + ls.length = total → (∀ l ∈ ls, l.length ≤ 50000) → Parsed M M' R W refs rows winds → Sta rows winds →
    fori (gTp (gsCons (gNm 6) (gsCons (gNm 7) gsNil)) 2) (t_read_parts_4 E) (enumD k (txs ls)) Z [T, L, rs, some (.ref R), some (.ref W), some (.int (top : Nat)), o6, o7, o8] M'
  | [], k, rows, winds, top, refs, M', o6, o7, o8, hr, hk, _, hp, _ => qn _ _ _ _ _ (by rw [← hr]; simp only [runL]; simp at hk; rw [hk]) hp.ex
  | l :: ls, k, rows, winds, top, refs, M', o6, o7, o8, hr, hk, hl, hp, hs => by
    simp only [txs, List.map_cons, enumD, fori]
    refine ⟨rfl, ?_⟩
    show t_read_parts_4 E _ [T, L, rs, some (.ref R), some (.ref W), some (.int (top : Nat)), some (.int (k : Nat)), some (.str (S l)), o8] M'
    simp only [List.length_cons] at hk
    refine one_line hp hs (hl l List.mem_cons_self) (fun why M2 z ex => ?_) (fun z => ?_) (fun rows' winds' top' refs' M2 o8 z hp' hs' => ?_)
    · exact qe k why M2 (by rw [← hr]; simp only [runL, z]) ex
    · have := qo rows winds top (k + 1) refs M' (by rw [← hr]; simp only [runL, z]) hp
      simpa using this
    · exact lines_loop qe qo qn ls (k + 1) rows' winds' top' refs' M2 _ _ _ (by rw [← hr]; simp only [runL, z]) (by omega) (fun y hy => hl y (List.mem_cons_of_mem _ hy)) hp' hs'
theorem last_split (ps : List (List Nat)) (h : ps ≠ []) : ps = ps.dropLast ++ [lastL ps] := by
  rcases List.eq_nil_or_concat ps with rfl | ⟨u, d, rfl⟩
  · exact absurd rfl h
  · rw [List.concat_eq_append]
    simp [lastL]
theorem pure_read_parts : ∀ ds M Q E, sp_read_parts ds M Q E → ds.length = (["text"] : List Str).length ∧ t_read_parts (fzX E) { nx := fun _ M' => fzK Q .non M', rt := fzK Q } (startD ["text", "lines", "rest", "rows", "winds", "top", "at", "line", "words"] ds) M := by
  rintro ds M Q E (⟨l, rfl, hl, hn, qe, qo⟩ | ⟨v, rfl, hv, qe⟩)
  case inr =>
    refine ⟨rfl, ?_⟩
    have z : fzX E "InvalidText" (eText 0 "form") M := ⟨fun _ => False, by rw [show drop M (fun _ => False) = M from by funext x; simp [drop]]; exact qe⟩
    show t_read_parts (fzX E) _ [some v, none, none, none, none, none, none, none, none] M
    rcases hv with rfl | ⟨b, rfl⟩ | ⟨i, rfl⟩ | ⟨r, xs, rfl⟩ | ⟨xs, rfl⟩ <;>
    · simp [t_read_parts, inst, tyN, isA, tyNames]
      exact z
  refine ⟨rfl, ?_⟩
  show t_read_parts (fzX E) _ [some (.str (S l)), none, none, none, none, none, none, none, none] M
  simp [t_read_parts, inst, tyN, isA, tyNames]
  simp only [t_read_parts_8, dSeq, dAsg, dM1, dVar, dC, splitD, List.getElem?_cons_zero]
  refine ⟨by decide +kernel, by rw [S_len]; omega, ?_⟩
  rw [split_nl]
  have hne := sp1_ne 10 l
  have hsh := sp1_short (c := 10) hl
  have hsp := last_split (sp1 10 l) hne
  have hlen : (sp1 10 l).length = (sp1 10 l).dropLast.length + 1 := by rw [List.length_dropLast]; have := List.length_pos_iff.mpr hne; omega
  have htl : (txs (sp1 10 l)).length = (sp1 10 l).dropLast.length + 1 := by simp [txs]; omega
  simp only [gStar]
  refine ⟨by omega, by rw [htl]; omega, by rw [htl]; omega, ?_⟩
  have e1 : txs (sp1 10 l) = txs (sp1 10 l).dropLast ++ [.str (S (lastL (sp1 10 l)))] := by
    conv => lhs; rw [hsp]
    simp [txs]
  have e2 : (txs (sp1 10 l).dropLast).length = (sp1 10 l).dropLast.length + 1 + 1 - 2 := by simp [txs]
  rw [htl, e1]
  simp only [List.take_zero, List.drop_zero, List.nil_append]
  rw [← e2, List.take_left, List.drop_left]
  simp only [List.cons_append, List.nil_append, gsCons, gNm, gsNil, List.set_cons_succ, List.set_cons_zero]
  simp [t_read_parts_7]
  intro R hR W hW
  have hRW : R ≠ W := fun z => by subst z; rw [setM_same] at hW; cases hW
  have hW0 : M W = none := by rw [setM_ne hRW.symm] at hW; exact hW
  have p0 : Parsed M (setM (setM M R (.lst [])) W (.lst [])) R W [] [] [] := ⟨by rw [setM_ne hRW]; exact setM_same, setM_same, hR, hW0, hRW, rfl, fun i a xs e => by simp at e, by simp, List.nodup_nil, fun x h1 h2 _ => by rw [setM_ne h2, setM_ne h1]⟩
  simp only [t_read_parts_6, dSeq, dFor, dEnT, dCons, dNil, dVar, List.getElem?_cons_succ, List.getElem?_cons_zero]
  have rz : ∀ (j : Nat) why M', resOf l = .err j why → Ex M M' → fzX E "InvalidText" (eText j why) M' := fun j why M' z ex => by
    refine ⟨newIn M, ?_⟩
    rw [drop_new ex]
    exact qe j why z
  refine lines_loop (M := M) (R := R) (W := W) (rest := lastL (sp1 10 l)) (res := resOf l) (total := (sp1 10 l).dropLast.length) rz (fun rows winds top many refs M' z hp => fzK_keep (qo rows winds top many z R W refs M' hp)) (fun tp o6 o7 o8 M' z ex => ?_) (sp1 10 l).dropLast 0 [] [] 0 [] _ none none none rfl (by omega) (fun x hx => hsh.2 x (List.dropLast_subset _ hx)) p0 ⟨by simp, by simp, by simp, by simp, by simp⟩
  have zz := rz _ _ M' z ex
  simp only [t_read_parts_5, dRaise, dCons, dNil, dCB, dIf, dB, dOp, dVar, dC, List.getElem?_cons_succ, List.getElem?_cons_zero, len_txs]
  rw [S_nil, eqD_S]
  simp only [isB]
  by_cases h0 : lastL (sp1 10 l) = []
  · rw [if_pos (decide_eq_true h0)]
    rw [if_pos h0] at zz
    exact ⟨⟨rfl, by decide⟩, zz⟩
  · rw [if_neg (by rw [decide_eq_true_eq]; exact h0)]
    rw [if_neg h0] at zz
    exact ⟨⟨rfl, by decide⟩, zz⟩
end K08
/-! The defs of this law keep their promises, over data: what is read is what is written. -/
namespace K08
open PySem L2 DL HS
open SX (S)
theorem items_words {m : Nat} : ∀ {ws : List (List Nat)} {xs : List D}, items m ws = some xs → ws = xs.map (itemL m)
  | [], xs, h => by cases h; rfl
  | w :: ws, xs, h => by
    unfold items at h
    split at h
    · rename_i x ys hx hy
      cases h
      rw [List.map_cons, ← items_words hy]
      congr 1
      unfold wordI at hx
      split at hx
      · rename_i e; cases hx; simpa [itemL] using e
      · split at hx
        · rename_i z
          cases hx
          simp [itemL]
          exact canon_eq z.1
        · cases hx
    · cases h
theorem line_words {line w : List Nat} {m : Nat} {ws : List (List Nat)} {xs : List D} (e : sp1 32 line = w :: ws) (h : items m ws = some xs) : line = lineL w m xs := by
  have := sp1_join 32 line
  rw [e, items_words h] at this
  exact this.symm
structure Run (k : Nat) (done : List (List Nat)) (rows winds : List (List D)) (top : Nat) : Prop where
  s : Sta rows winds
  wd : rows = [] ∨ ∃ w, 1 ≤ w ∧ w ≤ 6 ∧ ∀ r ∈ rows, r.length = w
  ww : winds ≠ [] → rows ≠ [] ∧ water rows = true
  k0 : k = 0 → done = [] ∧ rows = [] ∧ winds = []
  k1 : k ≠ 0 → 1 ≤ top ∧ top ≤ 99 ∧ done = topL top :: (rows.map (lineL cRow 46) ++ winds.map (lineL cWind 45))
  ln : done.length = k
theorem Run.go {k : Nat} {done : List (List Nat)} {rows winds rows' winds' : List (List D)} {top top' : Nat} {line : List Nat} (h : Run k done rows winds top) (e : stepL k line rows winds top = .go rows' winds' top') : Run (k + 1) (done ++ [line]) rows' winds' top' := by
  obtain ⟨w0, wt, ew⟩ : ∃ w0 wt, sp1 32 line = w0 :: wt := by
    cases e : sp1 32 line with
    | nil => exact absurd e (sp1_ne 32 line)
    | cons a b => exact ⟨a, b, rfl⟩
  unfold stepL at e
  split at e
  · rename_i hk
    split at e
    · rename_i n hn
      cases e
      obtain ⟨rfl, rfl, rfl⟩ := h.k0 hk
      refine ⟨h.s, .inl rfl, fun z => absurd rfl z, fun z => by omega, fun _ => ?_, by simp [hk]⟩
      unfold topOf at hn
      split at hn
      · rename_i a b hab
        split at hn
        · rename_i z
          cases hn
          obtain ⟨rfl, z1, z2, z3⟩ := z
          have h1 := (canon_len z1).mpr z2
          have h0 : valL b ≠ 0 := fun y => z3 ((canon_zero z1).mp y)
          refine ⟨by omega, h1, ?_⟩
          have := sp1_join 32 line
          rw [hab] at this
          simp [topL, ← canon_eq z1, this]
        · cases hn
      · cases hn
    · cases e
  · rename_i hk
    obtain ⟨t1, t9, hd⟩ := h.k1 hk
    split at e
    · rename_i hrow
      rw [ew] at hrow e
      simp at hrow
      split at e
      · rename_i xs hx
        cases e
        obtain ⟨s', ht⟩ := h.s.row hx
        unfold rowStep at hx
        simp only [List.tail_cons] at hx
        cases ei : items 46 wt with
        | none => rw [ei] at hx; cases hx
        | some ys =>
          rw [ei] at hx
          simp only at hx
          split at hx
          · cases hx
          · rename_i hf
            split at hx
            · cases hx
            · split at hx
              · cases hx
              · rename_i hu
                cases hx
                have hw0 : winds = [] := by
                  cases winds with
                  | nil => rfl
                  | cons a b => exact absurd (Or.inl (by simp)) hf
                subst hw0
                refine ⟨s', .inr ?_, fun z => absurd rfl z, fun z => by omega, fun _ => ⟨t1, t9, ?_⟩, by simp [h.ln]⟩
                · by_cases hr0 : rows = []
                  · subst hr0; exact ⟨xs.length, by omega, by omega, by simp⟩
                  · obtain ⟨w, w1, w6, hw⟩ := h.wd.resolve_left hr0
                    refine ⟨w, w1, w6, fun r hr => ?_⟩
                    simp at hr
                    rcases hr with hr | rfl
                    · exact hw r hr
                    · obtain ⟨r0, rs, rfl⟩ := List.exists_cons_of_ne_nil hr0
                      have := hw r0 (by simp)
                      by_cases hl : r.length = r0.length
                      · omega
                      · exact absurd ⟨r0, rfl, hl⟩ hu
                · rw [hd]
                  have := line_words ew ei
                  simp [hrow] at this
                  simp [this]
      · cases e
    · rename_i hrow
      split at e
      · rename_i hwind
        rw [ew] at hwind e
        simp at hwind
        split at e
        · rename_i xs hx
          cases e
          obtain ⟨s', hg⟩ := h.s.wind hx
          unfold windStep at hx
          simp only [List.tail_cons] at hx
          cases ei : items 45 wt with
          | none => rw [ei] at hx; cases hx
          | some ys =>
            rw [ei] at hx
            simp only at hx
            split at hx
            · cases hx
            · rename_i hf
              split at hx
              · cases hx
              · split at hx
                · cases hx
                · rename_i hwt
                  cases hx
                  refine ⟨s', h.wd, fun _ => ⟨fun z => hf (.inl (by rw [z]; rfl)), by simpa using hwt⟩, fun z => by omega, fun _ => ⟨t1, t9, ?_⟩, by simp [h.ln]⟩
                  rw [hd]
                  have := line_words ew ei
                  simp [hwind] at this
                  simp [this]
        · cases e
      · split at e
        · cases e
        · split at e <;> cases e
theorem Run.fin {k : Nat} {done : List (List Nat)} {rows winds : List (List D)} {top : Nat} {line : List Nat} (h : Run k done rows winds top) (e : stepL k line rows winds top = .fin) : Gd rows winds (top : Nat) ∧ done ++ [line] = linesL rows winds top ∧ line = cEnd := by
  unfold stepL at e
  split at e
  · split at e <;> cases e
  · rename_i hk
    obtain ⟨t1, t9, hd⟩ := h.k1 hk
    split at e
    · split at e <;> cases e
    · split at e
      · split at e <;> cases e
      · split at e
        · cases e
        · rename_i hf
          split at e
          · cases e
          · rename_i hw
            have hl : line = cEnd := by
              by_cases z : line = cEnd
              · exact z
              · exact absurd (Or.inl z) hf
            have hr : rows ≠ [] := fun z => hf (.inr (by rw [z]; rfl))
            obtain ⟨w, w1, w6, hwd⟩ := h.wd.resolve_left hr
            have := List.length_pos_iff.mpr hr
            refine ⟨⟨⟨by omega, h.s.r6, ⟨w, w1, w6, hwd⟩, h.s.rt, by simpa using hw⟩, h.s.w8, h.s.wg, by omega, by omega⟩, ?_, hl⟩
            rw [hd, hl]; simp [linesL]
theorem run_ok {rest : List Nat} : ∀ {ls : List (List Nat)} {k : Nat} {done : List (List Nat)} {rows winds rows' winds' : List (List D)} {top top' many : Nat}, Run k done rows winds top → runL rest k ls rows winds top = .ok rows' winds' top' many →
    Gd rows' winds' (top' : Nat) ∧ ∃ tail, done ++ ls = linesL rows' winds' top' ++ tail ∧ many = (linesL rows' winds' top').length ∧ many + tail.length = k + ls.length
  | [], k, done, rows, winds, rows', winds', top, top', many, h, e => by simp only [runL] at e; cases e
  | l :: ls, k, done, rows, winds, rows', winds', top, top', many, h, e => by
    simp only [runL] at e
    split at e
    · rename_i r w t hst
      obtain ⟨g, tail, h1, h2, h3⟩ := run_ok (h.go hst) e
      exact ⟨g, tail, by rw [← h1]; simp, h2, by simp at h3 ⊢; omega⟩
    · cases e
    · rename_i hst
      cases e
      obtain ⟨g, hl, _⟩ := h.fin hst
      have hll := congrArg List.length hl
      simp [h.ln] at hll
      exact ⟨g, ls, by rw [← hl]; simp, by omega, by simp; omega⟩
theorem res_ok {l : List Nat} {rows winds : List (List D)} {top many : Nat} (e : resOf l = .ok rows winds top many) :
    Gd rows winds (top : Nat) ∧ ∃ tail, (sp1 10 l).dropLast = linesL rows winds top ++ tail ∧ many = (linesL rows winds top).length ∧ many + tail.length = (sp1 10 l).dropLast.length := by
  have h0 : Run 0 [] [] [] 0 := ⟨⟨by simp, by simp, by simp, by simp, by simp⟩, .inl rfl, fun z => absurd rfl z, fun _ => ⟨rfl, rfl, rfl⟩, fun z => absurd rfl z, rfl⟩
  obtain ⟨g, tail, h1, h2, h3⟩ := run_ok h0 e
  exact ⟨g, tail, by simpa using h1, h2, by simpa using h3⟩
theorem joinL_snoc : ∀ (ls : List (List Nat)), TL.joinL [10] (ls ++ [[]]) = (ls.map (· ++ [10])).flatten
  | [] => rfl
  | [a] => by simp [TL.joinL]
  | a :: b :: ls => by
    have := joinL_snoc (b :: ls)
    simp only [List.cons_append, TL.joinL, List.map_cons, List.flatten_cons] at this ⊢
    rw [this]; simp
theorem read_ok {l : List Nat} {rows winds : List (List D)} {top many : Nat} (e : readOf l = .ok rows winds top many) : resOf l = .ok rows winds top many ∧ Gd rows winds (top : Nat) ∧ l = chartL rows winds top := by
  unfold readOf at e
  cases er : resOf l with
  | err k y => rw [er] at e; cases e
  | ok r w t m =>
    rw [er] at e
    simp only at e
    split at e
    · rename_i hc
      cases e
      obtain ⟨g, tail, h1, h2, h3⟩ := res_ok er
      refine ⟨rfl, g, ?_⟩
      have ht : tail = [] := by
        have := hc.1
        rw [List.length_dropLast] at h3
        exact List.eq_nil_of_length_eq_zero (by omega)
      have hsp := last_split (sp1 10 l) (sp1_ne 10 l)
      rw [hc.2, h1, ht, List.append_nil] at hsp
      have := sp1_join 10 l
      rw [hsp, joinL_snoc] at this
      exact this.symm
    · cases e
end K08
/-! The defs of this law keep their promises, over data: a chart is read. -/
namespace K08
open PySem L2 DL HS
open SX (S)
theorem isToll_of {t : D} (h : toll t) : isToll t = true := by rcases h with rfl | ⟨i, rfl, h0, h1⟩; rfl; simp [isToll, isNum, h0, h1]
theorem col_none : ∀ {xs : List D} {k : Nat}, (∀ t ∈ xs, toll t) → colErr k xs = none
  | [], _, _ => rfl
  | x :: xs, k, h => by
    unfold colErr
    rw [if_pos (isToll_of (h x List.mem_cons_self))]
    exact col_none fun t ht => h t (List.mem_cons_of_mem _ ht)
theorem rows_none {w r : Nat} : ∀ {rows : List (List D)} {k : Nat}, (∀ x ∈ rows, 1 ≤ x.length ∧ x.length ≤ 6 ∧ x.length = w ∧ ∀ t ∈ x, toll t) → rowsErr1 w k (rows.map (.lst r)) = none
  | [], _, _ => rfl
  | x :: rows, k, h => by
    obtain ⟨h1, h2, h3, h4⟩ := h x List.mem_cons_self
    simp only [List.map_cons, rowsErr1]
    have e : rowErr w (.lst r x) = none := by
      simp only [rowErr, seq]
      rw [if_pos ⟨h1, h2, h3⟩, col_none h4]; rfl
    rw [e]
    exact rows_none fun y hy => h y (List.mem_cons_of_mem _ hy)
theorem wind_none : ∀ {ws : List (List D)} {k : Nat}, (∀ g ∈ ws, gust g) → windErr1 k (ws.map .tup) = none
  | [], _, _ => rfl
  | g :: ws, k, h => by
    have hg := h g List.mem_cons_self
    simp only [List.map_cons, windErr1]
    have e : isWind (.tup g) = true := by
      simp only [isWind, hg.1, decide_true, Bool.true_and, List.all_eq_true]
      exact fun t ht => isToll_of (hg.2 t ht)
    rw [if_pos e]
    exact wind_none fun y hy => h y (List.mem_cons_of_mem _ hy)
theorem gd_none {rows winds : List (List D)} {top : Int} (g : Gd rows winds top) (r : Nat) : rowsErr (rowsD r rows) = none ∧ windsErr (windsD r winds) = none ∧ isNum (.int top) 1 99 = true := by
  obtain ⟨w, w1, w6, hw⟩ := g.r.wd
  have hlo := g.r.lo
  have hhi := g.r.hi
  have hwid : wid (rows.map (D.lst r)) = w := by
    cases rows with
    | nil => simp at hlo
    | cons x xs => simp [wid, seq, hw x (by simp)]
  refine ⟨?_, ?_, by simp [isNum, g.t0, g.t1]⟩
  · simp only [rowsErr, rowsD, seq]
    rw [if_pos (by simp; omega), hwid, rows_none fun x hx => ⟨by have := hw x hx; omega, by have := hw x hx; omega, hw x hx, g.r.tl x hx⟩]
    have : (rows.map (D.lst r)).any waterR = true := by
      rw [water_eq (rows := rows) (by simp [seq, Function.comp_def])]; exact g.r.wat
    simp only
    rw [if_pos this]
  · simp only [windsErr, windsD, seq]
    rw [if_pos (by simpa using g.wn), wind_none g.wg]; rfl
theorem count_split {x y : Str} (h : 2 ≤ (Txt.split x y).length) : Txt.count x y = (((Txt.split x y).length - 1 : Nat) : Int) := by
  unfold Txt.split at h ⊢
  split at h
  · simp at h
  · rename_i h1
    split at h
    · simp at h
    · rename_i h2
      rw [if_neg h1, if_neg h2]
      unfold Txt.count Builtin.Str.partsBetween
      simp
theorem ends_nl (l : List Nat) : Txt.endswith (S (l ++ [10])) (Str.ofString "\n") = true := by
  have := (StrLaws.subAt_one (S (l ++ [10])) 10 l.length).mpr (by simp)
  unfold Txt.endswith
  have e1 : (Str.ofString "\n").length = 1 := by decide +kernel
  have e2 : (S (l ++ [10])).length = l.length + 1 := by rw [S_len]; simp
  rw [e1, e2]
  have e3 : (Str.ofString "\n") = ⟨#[10]⟩ := by decide +kernel
  rw [e3]
  simp [this.2]
theorem ends_not {l : List Nat} {c : Nat} (h : c ≠ 10) : Txt.endswith (S (l ++ [c])) (Str.ofString "\n") = false := by
  unfold Txt.endswith
  have e1 : (Str.ofString "\n").length = 1 := by decide +kernel
  have e2 : (S (l ++ [c])).length = l.length + 1 := by rw [S_len]; simp
  have e3 : (Str.ofString "\n") = ⟨#[10]⟩ := by decide +kernel
  rw [e1, e2, e3]
  have key : (⟨#[10]⟩ : Str).length = 1 := rfl
  have hh := StrLaws.subAt_one (S (l ++ [c])) 10 l.length
  simp only [Nat.add_sub_cancel]
  rw [Bool.and_eq_false_iff]
  right
  cases hb : Builtin.Str.subAt (S (l ++ [c])) { cps := #[10] } l.length with
  | false => rfl
  | true =>
    have := hh.mp ⟨by rw [key, e2]; exact Nat.le_refl _, hb⟩
    simp at this
    exact absurd this h
theorem spl_no {c : Nat} : ∀ (l acc : List Nat), c ∉ acc → ∀ p ∈ TL.spl [c] 0 acc l, c ∉ p
  | [], acc, h, p, hp => by rw [TL.spl_nil] at hp; simp at hp; subst hp; exact h
  | d :: r, acc, h, p, hp => by
    by_cases hh : TL.pre [c] (d :: r) = true
    · rw [TL.spl_hit hh] at hp
      rcases List.mem_cons.mp hp with rfl | hp
      · exact h
      · exact spl_no r [] (by simp) p hp
    · have hh' : TL.pre [c] (d :: r) = false := by simpa using hh
      rw [TL.spl_miss hh'] at hp
      have hd : d ≠ c := fun z => hh (by simp [TL.pre, z])
      exact spl_no r (acc ++ [d]) (by simp [h]; exact fun z => hd z.symm) p hp
theorem joinL_end : ∀ (ls : List (List Nat)) (q : List Nat), ls ≠ [] → ∃ u, TL.joinL [10] (ls ++ [q]) = u ++ [10] ++ q
  | [], q, h => absurd rfl h
  | [a], q, _ => ⟨a, by simp [TL.joinL]⟩
  | a :: b :: ls, q, _ => by
    obtain ⟨u, e⟩ := joinL_end (b :: ls) q (by simp)
    refine ⟨a ++ [10] ++ u, ?_⟩
    simp only [List.cons_append, TL.joinL] at e ⊢
    rw [e]; simp
theorem ends_iff {l : List Nat} (h : 2 ≤ (sp1 10 l).length) : Txt.endswith (S l) (Str.ofString "\n") = decide (lastL (sp1 10 l) = []) := by
  have hsp := last_split (sp1 10 l) (sp1_ne 10 l)
  have hd : (sp1 10 l).dropLast ≠ [] := fun z => by
    have := congrArg List.length z
    rw [List.length_dropLast] at this; simp at this; omega
  obtain ⟨u, e⟩ := joinL_end (sp1 10 l).dropLast (lastL (sp1 10 l)) hd
  rw [← hsp, sp1_join] at e
  have hmem : lastL (sp1 10 l) ∈ sp1 10 l := by rw [hsp]; simp [lastL]
  have hno : 10 ∉ lastL (sp1 10 l) := spl_no l [] (by simp) _ hmem
  rcases List.eq_nil_or_concat (lastL (sp1 10 l)) with z | ⟨v, c, z⟩
  · rw [z, List.append_nil] at e
    rw [z, e, ends_nl]; rfl
  · rw [List.concat_eq_append] at z
    rw [z] at e hno ⊢
    rw [e, ← List.append_assoc, ends_not (fun y => hno (by simp [y]))]
    simp
theorem chart_make {rows winds : List (List D)} {top : Int} {M : Mu} {Q : DK} {E : DXK} {a : Addr} (g : Gd rows winds top) (ha : M a = none) (q : ∀ kvs, Q (chartD rows winds top kvs) M) :
    sp_Chart___init__ [.ref a, rowsD 0 rows, windsD 0 winds, .int top] (setM M a (.ins "Chart" [])) (fun d M2 => d = .non ∧ fzK Q (.ref a) M2) E := by
  obtain ⟨e1, e2, e3⟩ := gd_none g 0
  refine ⟨a, rowsD 0 rows, windsD 0 winds, .int top, rfl, setM_same, fitG_rows g, fitW_winds g, rfl, ?_, ?_, ?_, fun _ _ _ rows' winds' top' hp M2 b kvs hba hb ea eb hk ot => ⟨rfl, ?_⟩⟩
  · intro r c z; rw [e1] at z; cases z
  · intro _ k z; rw [e2] at z; cases z
  · intro _ _ z; rw [e3] at z; cases z
  obtain ⟨⟨ds, hs, hds⟩, hw, ht, g'⟩ := hp
  have hr : rows' = rows := by
    simp only [rowsD, seq] at hs
    cases hs
    have : rows.map some = rows'.map some := by rw [← hds]; simp [seq, Function.comp_def]
    exact ((List.map_inj_right (fun _ _ => Option.some.inj)).mp this).symm
  have hw' : winds' = winds := by
    simp only [windsD, seq] at hw
    have := Option.some.inj hw
    exact ((List.map_inj_right (fun _ _ z => by cases z; rfl)).mp this).symm
  cases ht
  subst hr hw'
  have hb' : M b = none := by rw [setM_ne hba] at hb; exact hb
  refine fz_new (M0 := M) (fun x m e => ?_) ?_
  · have n1 : x ≠ a := fun z => by subst z; rw [ha] at e; cases e
    have n2 : x ≠ b := fun z => by subst z; rw [hb'] at e; cases e
    rw [ot x n1 n2, setM_ne n1]; exact e
  · obtain ⟨kvs', e⟩ := rs_chart (dead := newIn M) g ha hb' ea eb
    rw [e]; exact q kvs'
theorem parts_fz {M M' : Mu} {R W : Addr} {refs : List Addr} {rows winds : List (List D)} {top many : Int} {Q : DK} (g : Gd rows winds top) (hp : Parsed M M' R W refs rows winds) (q : Q (.tup [rowsD 0 rows, windsD 0 winds, .int top, .int many]) M) : fzK Q (.tup [.ref R, .ref W, .int top, .int many]) M' := by
  refine fz_new (M0 := M) hp.ex ?_
  have wt : ∀ x ∈ winds, ∀ t ∈ x, toll t := fun x hx => (g.wg x hx).2
  rw [rs_tup]
  simp only [List.map_cons, List.map_nil, rs_int]
  rw [rs_lstO (n := 7) hp.rn hp.r, rs_lstO (n := 7) hp.wn hp.w, rs_refs (n := 6) hp.own g.r.tl (fun a ha => (hp.fn a ha).1) (fun a ha => rfl), rs_winds (n := 6) wt]
  exact q
theorem pure_Chart_read : ∀ ds M Q E, sp_Chart_read ds M Q E → ds.length = (["text"] : List Str).length ∧ t_Chart_read E { nx := fun _ M' => Q .non M', rt := Q } (startD ["text", "rows", "winds", "top", "many"] ds) M := by
  rintro ds M Q E (⟨l, rfl, hl, hn, qe, qo⟩ | ⟨v, rfl, hv, qe⟩)
  case inr =>
    refine ⟨rfl, ?_⟩
    show t_Chart_read E _ [some v, none, none, none, none] M
    simp only [t_Chart_read, dSeq, dAsg, dFz, dCall, dCons, dVar, dNil, List.getElem?_cons_zero]
    exact .inr ⟨v, rfl, hv, qe⟩
  refine ⟨rfl, ?_⟩
  show t_Chart_read E _ [some (.str (S l)), none, none, none, none] M
  simp only [t_Chart_read, dSeq, dAsg, dFz, dCall, dCons, dVar, dNil, List.getElem?_cons_zero]
  refine .inl ⟨l, rfl, hl, hn, fun k why z => qe k why (by simp only [readOf, z]), fun rows winds top many z R W refs M' hp => ?_⟩
  obtain ⟨g, tail, h1, h2, h3⟩ := res_ok z
  refine parts_fz g hp ?_
  refine ⟨rfl, ?_⟩
  simp only [gsCons, gNm, gsNil, List.set_cons_succ, List.set_cons_zero]
  have hm2 : 2 ≤ many := by rw [h2]; simp [linesL]; omega
  have hlen : (sp1 10 l).length = (sp1 10 l).dropLast.length + 1 := by rw [List.length_dropLast]; have := List.length_pos_iff.mpr (sp1_ne 10 l); omega
  have hcount : Txt.count (S l) (Str.ofString "\n") = ((sp1 10 l).dropLast.length : Int) := by
    have e : (Txt.split (S l) (Str.ofString "\n")).length = (sp1 10 l).length := by have := congrArg List.length (split_nl l); simpa [txs] using this
    rw [count_split (by omega), e]
    omega
  simp only [t_Chart_read_2, dSeq, dIfS, dOr, dNot, dB, dOp, dM1, countD, dVar, dC, List.getElem?_cons_succ, List.getElem?_cons_zero, neI, hcount, isB]
  by_cases hc : (sp1 10 l).dropLast.length = many
  · rw [if_neg (by simp; omega)]
    simp only [endswithD, isB, ends_iff (show 2 ≤ (sp1 10 l).length by omega)]
    by_cases h0 : lastL (sp1 10 l) = []
    · rw [if_neg (by simp [h0])]
      simp only [dNext, t_Chart_read_1, dRet, dFz, dMake, dCons, dNil, dVar, List.getElem?_cons_succ, List.getElem?_cons_zero]
      refine ⟨rfl, rfl, fun a ha => ?_⟩
      exact chart_make g ha fun kvs => qo rows winds top many (by simp only [readOf, z]; rw [if_pos ⟨by omega, h0⟩]) kvs
    · rw [if_pos (by simp [h0])]
      simp only [dRaise, dCons, dNil, dVar, dC, List.getElem?_cons_succ, List.getElem?_cons_zero]
      exact ⟨⟨rfl, by decide⟩, qe many "form" (by simp only [readOf, z]; rw [if_neg (fun y => h0 y.2)])⟩
  · rw [if_pos (by simp; omega)]
    simp only [if_true, dRaise, dCons, dNil, dVar, dC, List.getElem?_cons_succ, List.getElem?_cons_zero]
    exact ⟨⟨rfl, by decide⟩, qe many "form" (by simp only [readOf, z]; rw [if_neg (fun y => hc (by omega))])⟩
end K08
/-! Texts of charts by their lines: where the reader stops. -/
namespace K08
open PySem L2 DL HS
open SX (S)
/-! ### kinds of lines -/
def rowLn (l : List Nat) (xs : List D) : Prop := ∃ ws, sp1 32 l = cRow :: ws ∧ items 46 ws = some xs ∧ 1 ≤ xs.length ∧ xs.length ≤ 6
def windLn (l : List Nat) (xs : List D) : Prop := ∃ ws, sp1 32 l = cWind :: ws ∧ items 45 ws = some xs ∧ xs.length = 5
def badRow (l : List Nat) : Prop := ∃ ws, sp1 32 l = cRow :: ws ∧ ∀ xs, items 46 ws = some xs → ¬ (1 ≤ xs.length ∧ xs.length ≤ 6)
def badWind (l : List Nat) : Prop := ∃ ws, sp1 32 l = cWind :: ws ∧ ∀ xs, items 45 ws = some xs → xs.length ≠ 5
def othLn (l : List Nat) : Prop := (sp1 32 l).head? ≠ some cRow ∧ (sp1 32 l).head? ≠ some cWind ∧ l ≠ cEnd
theorem n_wr : ¬ ((cWind :: ([] : List (List Nat))).head? = some cRow) := by decide
theorem h_row (ws : List (List Nat)) : (cRow :: ws).head? = some cRow := rfl
theorem h_wind (ws : List (List Nat)) : (cWind :: ws).head? = some cWind := rfl
theorem h_no (ws : List (List Nat)) : ¬ (cWind :: ws).head? = some cRow := by simp; decide
section
variable {k : Nat} {l : List Nat} {rows winds : List (List D)} {top : Nat}
theorem step_badRow (h : badRow l) : stepL (k + 1) l rows winds top = .bad "form" := by
  obtain ⟨ws, e, hn⟩ := h
  unfold stepL
  rw [if_neg (by omega), e, if_pos (h_row ws)]
  simp only [List.tail_cons, rowStep]
  cases hi : items 46 ws with
  | none => rfl
  | some xs => simp only []; rw [if_pos (.inr (hn xs hi))]
theorem step_badWind (h : badWind l) : stepL (k + 1) l rows winds top = .bad "form" := by
  obtain ⟨ws, e, hn⟩ := h
  unfold stepL
  rw [if_neg (by omega), e, if_neg (h_no ws), if_pos (h_wind ws)]
  simp only [List.tail_cons, windStep]
  cases hi : items 45 ws with
  | none => rfl
  | some xs => simp only []; rw [if_pos (.inr (hn xs hi))]
theorem step_oth (h : othLn l) : stepL (k + 1) l rows winds top = .bad "form" := by
  unfold stepL
  rw [if_neg (by omega), if_neg h.1, if_neg h.2.1, if_pos (.inl h.2.2)]
theorem step_row {xs : List D} (h : rowLn l xs) : stepL (k + 1) l rows winds top = if 0 < winds.length then .bad "form" else if rows.length = 6 then .bad "many" else if ∃ r, rows.head? = some r ∧ xs.length ≠ r.length then .bad "uneven" else .go (rows ++ [xs]) winds top := by
  obtain ⟨ws, e, hi, h1, h6⟩ := h
  unfold stepL
  rw [if_neg (by omega), e, if_pos (h_row ws)]
  simp only [List.tail_cons, rowStep, hi]
  by_cases hw : 0 < winds.length
  · rw [if_pos (.inl hw), if_pos hw]
  · rw [if_neg (fun z => z.elim hw (fun q => q ⟨h1, h6⟩)), if_neg hw]
    by_cases hr : rows.length = 6
    · rw [if_pos hr, if_pos hr]
    · rw [if_neg hr, if_neg hr]
      by_cases hu : ∃ r, rows.head? = some r ∧ xs.length ≠ r.length
      · rw [if_pos hu, if_pos hu]
      · rw [if_neg hu, if_neg hu]
theorem step_wind {xs : List D} (h : windLn l xs) : stepL (k + 1) l rows winds top = if rows.length = 0 then .bad "form" else if winds.length = 8 then .bad "many" else if water rows = false then .bad "land" else .go rows (winds ++ [xs]) top := by
  obtain ⟨ws, e, hi, h5⟩ := h
  unfold stepL
  rw [if_neg (by omega), e, if_neg (h_no ws), if_pos (h_wind ws)]
  simp only [List.tail_cons, windStep, hi]
  by_cases hw : rows.length = 0
  · rw [if_pos (.inl hw), if_pos hw]
  · rw [if_neg (fun z => z.elim hw (fun q => q h5)), if_neg hw]
    by_cases hr : winds.length = 8
    · rw [if_pos hr, if_pos hr]
    · rw [if_neg hr, if_neg hr]
      by_cases hu : water rows = false
      · rw [if_pos hu, if_pos hu]
      · rw [if_neg hu, if_neg hu]
theorem end_words : sp1 32 cEnd = [cEnd] := by decide +kernel
theorem step_end : stepL (k + 1) cEnd rows winds top = if rows.length = 0 then .bad "form" else if water rows = false then .bad "land" else .fin := by
  unfold stepL
  rw [if_neg (by omega), end_words, if_neg (by decide), if_neg (by decide)]
  by_cases h : rows.length = 0
  · rw [if_pos (.inr h), if_pos h]
  · rw [if_neg (fun z => z.elim (fun q => q rfl) h), if_neg h]
theorem step_top {n : Nat} (h : topOf (sp1 32 l) = some n) : stepL 0 l rows winds top = .go rows winds n := by
  unfold stepL; rw [if_pos rfl, h]
theorem step_no (h : topOf (sp1 32 l) = none) : stepL 0 l rows winds top = .bad "form" := by
  unfold stepL; rw [if_pos rfl, h]
end
/-! ### lines and rest -/
def flatL (ls : List (List Nat)) : List Nat := (ls.map (· ++ [10])).flatten
theorem flatL_app (a b : List (List Nat)) : flatL (a ++ b) = flatL a ++ flatL b := by simp [flatL]
theorem sp1_flat {rest : List Nat} (hr : 10 ∉ rest) : ∀ (ls : List (List Nat)), (∀ p ∈ ls, 10 ∉ p) → sp1 10 (flatL ls ++ rest) = ls ++ [rest] := by
  intro ls h
  have e : flatL ls ++ rest = TL.joinL [10] (ls ++ [rest]) := by
    clear h
    induction ls with
    | nil => simp [flatL, TL.joinL]
    | cons a ls ih =>
      cases ls with
      | nil => simp [flatL, TL.joinL] at ih ⊢
      | cons b ls =>
        simp only [List.cons_append, TL.joinL] at ih ⊢
        rw [← ih]; simp [flatL]
  unfold sp1
  rw [e]
  exact TL.spl_join (by simp) fun p hp => (List.mem_append.mp hp).elim (h p) fun q => by simp at q; subst q; exact hr
theorem res_flat {rest : List Nat} {ls : List (List Nat)} (hr : 10 ∉ rest) (h : ∀ p ∈ ls, 10 ∉ p) : resOf (flatL ls ++ rest) = runL rest 0 ls [] [] 0 := by
  unfold resOf lastL
  rw [sp1_flat hr ls h]
  simp
theorem read_err {l : List Nat} {k : Nat} {y : Str} (h : resOf l = .err k y) : readOf l = .err k y := by simp only [readOf, h]
/-! ### a good beginning -/
structure Beg (H J U : List Nat) (n : Nat) (x : D) (ws : List D) : Prop where
  h : topOf (sp1 32 H) = some n
  j : rowLn J [x]
  u : windLn U ws
  nh : 10 ∉ H
  nj : 10 ∉ J
  nu : 10 ∉ U
theorem run_rows {rest J : List Nat} {x : D} (hj : rowLn J [x]) {n : Nat} {ls : List (List Nat)} : ∀ (a c k : Nat), c + a ≤ 6 → runL rest (k + 1) (List.replicate a J ++ ls) (List.replicate c [x]) [] n = runL rest (k + 1 + a) ls (List.replicate (c + a) [x]) [] n
  | 0, c, k, _ => by simp
  | a + 1, c, k, h => by
    rw [List.replicate_succ, List.cons_append]
    simp only [runL]
    rw [step_row hj, if_neg (by simp), if_neg (by simp; omega), if_neg (by
      rintro ⟨r, e, q⟩
      cases c with
      | zero => simp at e
      | succ c => simp [List.replicate_succ] at e; subst e; exact q rfl)]
    simp only []
    rw [show List.replicate c [x] ++ [[x]] = List.replicate (c + 1) [x] by rw [List.replicate_succ']]
    rw [run_rows hj a (c + 1) (k + 1) (by omega)]
    congr 1
    · omega
    · congr 1; omega
theorem run_winds {rest U : List Nat} {ws : List D} (hu : windLn U ws) {n : Nat} {ls : List (List Nat)} {rows : List (List D)} (hr : rows ≠ []) (hw : water rows = true) : ∀ (b c k : Nat), c + b ≤ 8 → runL rest (k + 1) (List.replicate b U ++ ls) rows (List.replicate c ws) n = runL rest (k + 1 + b) ls rows (List.replicate (c + b) ws) n
  | 0, c, k, _ => by simp
  | b + 1, c, k, h => by
    rw [List.replicate_succ, List.cons_append]
    simp only [runL]
    rw [step_wind hu, if_neg (by simpa using hr), if_neg (by simp; omega), if_neg (by rw [hw]; simp)]
    simp only []
    rw [show List.replicate c ws ++ [ws] = List.replicate (c + 1) ws by rw [List.replicate_succ']]
    rw [run_winds hu hr hw b (c + 1) (k + 1) (by omega)]
    congr 1
    · omega
    · congr 1; omega
def begL (H J U : List Nat) (a b : Nat) : List (List Nat) := H :: (List.replicate a J ++ List.replicate b U)
section
variable {H J U : List Nat} {n : Nat} {x : D} {ws : List D}
theorem water_rep {a : Nat} (h : 0 < a) (hx : DL.isNon x = false) : water (List.replicate a [x]) = true := by
  cases a with
  | zero => omega
  | succ a => simp [water, List.replicate_succ, hx]
theorem land_rep {a : Nat} (hx : DL.isNon x = true) : water (List.replicate a [x]) = false := by
  simp [water, hx]
theorem run_beg (B : Beg H J U n x ws) {rest : List Nat} {a b : Nat} {ls : List (List Nat)} (ha : a ≤ 6) (hb : b ≤ 8) (hab : 0 < b → 0 < a ∧ DL.isNon x = false) : runL rest 0 (begL H J U a b ++ ls) [] [] 0 = runL rest (1 + a + b) ls (List.replicate a [x]) (List.replicate b ws) n := by
  unfold begL
  rw [List.cons_append]
  simp only [runL]
  rw [step_top B.h]
  simp only []
  rw [List.append_assoc]
  have := run_rows (rest := rest) (n := n) (ls := List.replicate b U ++ ls) B.j a 0 0 (by omega)
  simp only [List.replicate_zero, Nat.zero_add] at this ⊢
  rw [this]
  cases b with
  | zero => simp
  | succ b =>
    obtain ⟨h1, h2⟩ := hab (by omega)
    have h3 := run_winds (rest := rest) (n := n) (ls := ls) B.u (rows := List.replicate a [x]) (by cases a; omega; simp [List.replicate_succ]) (water_rep h1 h2) (b + 1) 0 a (by omega)
    simp only [List.replicate_zero, Nat.zero_add] at h3
    rw [show 1 + a = a + 1 by omega, h3]
theorem beg_nl (B : Beg H J U n x ws) {a b : Nat} : ∀ p ∈ begL H J U a b, 10 ∉ p := by
  intro p hp
  simp only [begL, List.mem_cons, List.mem_append] at hp
  rcases hp with rfl | hp | hp
  · exact B.nh
  · rw [List.eq_of_mem_replicate hp]; exact B.nj
  · rw [List.eq_of_mem_replicate hp]; exact B.nu
/-- a line that is wrong behind a good beginning -/
theorem case_bad (B : Beg H J U n x ws) {text rest l : List Nat} {a b : Nat} {ls : List (List Nat)} {y : Str} (ha : a ≤ 6) (hb : b ≤ 8) (hab : 0 < b → 0 < a ∧ DL.isNon x = false) (ht : text = flatL (begL H J U a b ++ l :: ls) ++ rest) (hl : 10 ∉ l) (hls : ∀ p ∈ ls, 10 ∉ p) (hr : 10 ∉ rest)
    (hs : stepL (1 + a + b) l (List.replicate a [x]) (List.replicate b ws) n = .bad y) : resOf text = .err (1 + a + b) y := by
  rw [ht, res_flat hr (fun p hp => by
    rcases List.mem_append.mp hp with hp | hp
    · exact beg_nl B p hp
    · rcases List.mem_cons.mp hp with rfl | hp
      · exact hl
      · exact hls p hp), run_beg B ha hb hab]
  simp only [runL, hs]
/-- nothing behind a good beginning but the rest -/
theorem case_end (B : Beg H J U n x ws) {text rest : List Nat} {a b : Nat} (ha : a ≤ 6) (hb : b ≤ 8) (hab : 0 < b → 0 < a ∧ DL.isNon x = false) (ht : text = flatL (begL H J U a b) ++ rest) (hr : 10 ∉ rest) : resOf text = .err (1 + a + b) (if rest = [] then "missing" else "form") := by
  rw [ht, res_flat hr (fun p hp => beg_nl B p hp)]
  have := run_beg B (rest := rest) (ls := []) ha hb hab
  rw [List.append_nil] at this
  rw [this]
  simp only [runL]
/-- a whole chart, and what is behind it -/
theorem case_ok (B : Beg H J U n x ws) {text rest : List Nat} {a b : Nat} {ls : List (List Nat)} (ha : a ≤ 6) (hb : b ≤ 8) (h0 : 0 < a) (hx : DL.isNon x = false) (ht : text = flatL (begL H J U a b ++ cEnd :: ls) ++ rest) (hls : ∀ p ∈ ls, 10 ∉ p) (hr : 10 ∉ rest) :
    resOf text = .ok (List.replicate a [x]) (List.replicate b ws) n (2 + a + b) ∧ sp1 10 text = begL H J U a b ++ cEnd :: ls ++ [rest] := by
  have hnl : ∀ p ∈ begL H J U a b ++ cEnd :: ls, 10 ∉ p := fun p hp => by
    rcases List.mem_append.mp hp with hp | hp
    · exact beg_nl B p hp
    · rcases List.mem_cons.mp hp with rfl | hp
      · decide
      · exact hls p hp
  refine ⟨?_, by rw [ht, sp1_flat hr _ hnl]⟩
  rw [ht, res_flat hr hnl, run_beg B ha hb (fun _ => ⟨h0, hx⟩)]
  simp only [runL]
  rw [show 1 + a + b = (a + b) + 1 by omega, step_end, if_neg (by simp; omega), if_neg (by rw [water_rep h0 hx]; simp)]
  have e : a + b + 1 + 1 = 2 + a + b := by omega
  simp only [e]
end
end K08
/-! Each text of the law's list, by its lines (printed by gen/k08cases.py). -/
namespace K08
open PySem L2 DL HS
open SX (S)
theorem oth_top {l : List Nat} {n : Nat} (h : topOf (sp1 32 l) = some n) : othLn l := by
  have hd : (sp1 32 l).head? = some cChart := by
    generalize sp1 32 l = ws at h
    match ws, h with
    | [a, b], h =>
      simp only [topOf] at h
      split at h
      · rename_i q; simp [q.1]
      · exact absurd h (by simp)
    | [], h => exact absurd h (by simp [topOf])
    | [a], h => exact absurd h (by simp [topOf])
    | a :: b :: c :: d, h => exact absurd h (by simp [topOf])
  refine ⟨by rw [hd]; decide, by rw [hd]; decide, fun e => ?_⟩
  subst e
  rw [end_words] at hd
  exact absurd hd (by decide)
theorem no_row {l : List Nat} {xs : List D} (h : rowLn l xs) : topOf (sp1 32 l) = none := by
  obtain ⟨ws, e, -⟩ := h
  rw [e]
  match ws with
  | [] => rfl
  | [b] => simp only [topOf]; rw [if_neg (fun q => absurd q.1 (by decide))]
  | b :: c :: d => rfl
/-- a text whose first line has no form -/
theorem case_no {text rest l : List Nat} {ls : List (List Nat)} (ht : text = flatL (l :: ls) ++ rest) (hl : 10 ∉ l) (hls : ∀ p ∈ ls, 10 ∉ p) (hr : 10 ∉ rest) (h : topOf (sp1 32 l) = none) : resOf text = .err 0 "form" := by
  rw [ht, res_flat hr (fun p hp => by
    rcases List.mem_cons.mp hp with rfl | hp
    · exact hl
    · exact hls p hp)]
  simp only [runL, step_no h]
theorem case_nil {text rest : List Nat} (ht : text = rest) (hr : 10 ∉ rest) : resOf text = .err 0 (if rest = [] then "missing" else "form") := by
  rw [ht, show rest = flatL [] ++ rest from rfl, res_flat hr (by simp)]
  simp only [runL]
  simp [flatL]
theorem badRow_of {l : List Nat} (ws : List (List Nat)) (e : sp1 32 l = cRow :: ws) (h : items 46 ws = none ∨ ∃ xs, items 46 ws = some xs ∧ ¬ (1 ≤ xs.length ∧ xs.length ≤ 6)) : badRow l := ⟨ws, e, fun xs hx => by
  rcases h with h | ⟨ys, h, q⟩
  · rw [h] at hx; exact absurd hx (by simp)
  · rw [h] at hx; injection hx with hx; subst hx; exact q⟩
theorem badWind_of {l : List Nat} (ws : List (List Nat)) (e : sp1 32 l = cWind :: ws) (h : items 45 ws = none ∨ ∃ xs, items 45 ws = some xs ∧ xs.length ≠ 5) : badWind l := ⟨ws, e, fun xs hx => by
  rcases h with h | ⟨ys, h, q⟩
  · rw [h] at hx; exact absurd hx (by simp)
  · rw [h] at hx; injection hx with hx; subst hx; exact q⟩
/-- a whole chart with something behind it -/
theorem read_behind {l : List Nat} {rows winds : List (List D)} {top many : Nat} (h : resOf l = .ok rows winds top many) (h2 : ¬ ((sp1 10 l).length = many + 1 ∧ lastL (sp1 10 l) = [])) : readOf l = .err many "form" := by
  simp only [readOf, h]; rw [if_neg h2]
abbrev dotL : List Nat := [114, 111, 119, 32, 46]
section
variable {H I U : List Nat} {n : Nat} {v : Int} {ws : List D}

def cT (H I U : List Nat) (k : Nat) : List Nat := (((casesL (H ++ [10]) (I ++ [10]) (U ++ [10]))[k]?).getD ([], 0, "")).1
theorem c0 (B : Beg H I U n (.int v) ws) (L : Beg H dotL U n .non ws) : resOf (cT H I U 0) = .err 0 "missing" := by
  exact case_nil (rest := []) (by simp only [cT, casesL, List.getElem?_cons_succ, List.getElem?_cons_zero, Option.getD_some]; try simp [flatL, begL, List.replicate, cEnd]) (by simp)
theorem c1 (B : Beg H I U n (.int v) ws) (L : Beg H dotL U n .non ws) : resOf (cT H I U 1) = .err 1 "missing" := by
  have q := case_end B (text := (cT H I U 1)) (rest := ([] : List Nat)) (a := 0) (b := 0) (by decide) (by decide) (fun q => absurd q (by decide)) (by simp only [cT, casesL, List.getElem?_cons_succ, List.getElem?_cons_zero, Option.getD_some]; try simp [flatL, begL, List.replicate, cEnd]) (by simp)
  exact q
theorem c2 (B : Beg H I U n (.int v) ws) (L : Beg H dotL U n .non ws) : resOf (cT H I U 2) = .err 2 "missing" := by
  have q := case_end B (text := (cT H I U 2)) (rest := ([] : List Nat)) (a := 1) (b := 0) (by decide) (by decide) (fun q => absurd q (by decide)) (by simp only [cT, casesL, List.getElem?_cons_succ, List.getElem?_cons_zero, Option.getD_some]; try simp [flatL, begL, List.replicate, cEnd]) (by simp)
  exact q
theorem c3 (B : Beg H I U n (.int v) ws) (L : Beg H dotL U n .non ws) : resOf (cT H I U 3) = .err 3 "missing" := by
  have q := case_end B (text := (cT H I U 3)) (rest := ([] : List Nat)) (a := 1) (b := 1) (by decide) (by decide) (fun _ => ⟨by decide, rfl⟩) (by simp only [cT, casesL, List.getElem?_cons_succ, List.getElem?_cons_zero, Option.getD_some]; try simp [flatL, begL, List.replicate, cEnd]) (by simp)
  exact q
theorem c4 (B : Beg H I U n (.int v) ws) (L : Beg H dotL U n .non ws) : resOf (cT H I U 4) = .err 0 "form" := by
  exact case_no (l := ([101, 110, 100] : List Nat)) (ls := []) (rest := ([] : List Nat)) (by simp only [cT, casesL, List.getElem?_cons_succ, List.getElem?_cons_zero, Option.getD_some]; try simp [flatL, begL, List.replicate, cEnd]) (by decide) (by simp) (by simp) (by decide +kernel)
theorem c5 (B : Beg H I U n (.int v) ws) (L : Beg H dotL U n .non ws) : resOf (cT H I U 5) = .err 0 "form" := by
  exact case_no (l := I) (ls := []) (rest := ([] : List Nat)) (by simp only [cT, casesL, List.getElem?_cons_succ, List.getElem?_cons_zero, Option.getD_some]; try simp [flatL, begL, List.replicate, cEnd]) B.nj (by simp) (by simp) (no_row B.j)
theorem c6 (B : Beg H I U n (.int v) ws) (L : Beg H dotL U n .non ws) : resOf (cT H I U 6) = .err 1 "form" := by
  exact case_bad B (text := (cT H I U 6)) (rest := ([] : List Nat)) (l := U) (ls := []) (y := "form") (a := 0) (b := 0) (by decide) (by decide) (fun q => absurd q (by decide)) (by simp only [cT, casesL, List.getElem?_cons_succ, List.getElem?_cons_zero, Option.getD_some]; try simp [flatL, begL, List.replicate, cEnd]) B.nu (by simp) (by simp)
    ((step_wind (k := 0) B.u).trans (by simp [water, water_rep, land_rep, DL.isNon]))
theorem c7 (B : Beg H I U n (.int v) ws) (L : Beg H dotL U n .non ws) : resOf (cT H I U 7) = .err 1 "form" := by
  exact case_bad B (text := (cT H I U 7)) (rest := ([] : List Nat)) (l := ([101, 110, 100] : List Nat)) (ls := []) (y := "form") (a := 0) (b := 0) (by decide) (by decide) (fun q => absurd q (by decide)) (by simp only [cT, casesL, List.getElem?_cons_succ, List.getElem?_cons_zero, Option.getD_some]; try simp [flatL, begL, List.replicate, cEnd]) (by decide) (by simp) (by simp)
    ((step_end (k := 0)).trans (by simp [water, land_rep, DL.isNon]))
theorem c8 (B : Beg H I U n (.int v) ws) (L : Beg H dotL U n .non ws) : resOf (cT H I U 8) = .err 1 "form" := by
  exact case_bad B (text := (cT H I U 8)) (rest := ([] : List Nat)) (l := H) (ls := []) (y := "form") (a := 0) (b := 0) (by decide) (by decide) (fun q => absurd q (by decide)) (by simp only [cT, casesL, List.getElem?_cons_succ, List.getElem?_cons_zero, Option.getD_some]; try simp [flatL, begL, List.replicate, cEnd]) B.nh (by simp) (by simp)
    (step_oth (k := 0) (oth_top B.h))
theorem c9 (B : Beg H I U n (.int v) ws) (L : Beg H dotL U n .non ws) : resOf (cT H I U 9) = .err 3 "form" := by
  exact case_bad B (text := (cT H I U 9)) (rest := ([] : List Nat)) (l := I) (ls := []) (y := "form") (a := 1) (b := 1) (by decide) (by decide) (fun _ => ⟨by decide, rfl⟩) (by simp only [cT, casesL, List.getElem?_cons_succ, List.getElem?_cons_zero, Option.getD_some]; try simp [flatL, begL, List.replicate, cEnd]) B.nj (by simp) (by simp)
    ((step_row (k := 2) B.j).trans (by simp))
theorem c10 (B : Beg H I U n (.int v) ws) (L : Beg H dotL U n .non ws) : resOf (cT H I U 10) = .err 3 "form" := by
  have q := case_end B (text := (cT H I U 10)) (rest := ([101, 110, 100] : List Nat)) (a := 1) (b := 1) (by decide) (by decide) (fun _ => ⟨by decide, rfl⟩) (by simp only [cT, casesL, List.getElem?_cons_succ, List.getElem?_cons_zero, Option.getD_some]; try simp [flatL, begL, List.replicate, cEnd]) (by decide)
  exact q
theorem c11 (B : Beg H I U n (.int v) ws) (L : Beg H dotL U n .non ws) : resOf (cT H I U 11) = .err 3 "form" := by
  exact case_bad B (text := (cT H I U 11)) (rest := ([] : List Nat)) (l := ([101, 110, 100, 32] : List Nat)) (ls := []) (y := "form") (a := 1) (b := 1) (by decide) (by decide) (fun _ => ⟨by decide, rfl⟩) (by simp only [cT, casesL, List.getElem?_cons_succ, List.getElem?_cons_zero, Option.getD_some]; try simp [flatL, begL, List.replicate, cEnd]) (by decide) (by simp) (by simp)
    (step_oth (k := 2) ⟨by decide +kernel, by decide +kernel, by decide⟩)
theorem c12_ok (B : Beg H I U n (.int v) ws) (L : Beg H dotL U n .non ws) : resOf (cT H I U 12) = .ok (List.replicate 1 [.int v]) (List.replicate 1 ws) n 4 := by
  exact (case_ok B (text := (cT H I U 12)) (rest := ([] : List Nat)) (ls := ([([] : List Nat)] : List (List Nat))) (a := 1) (b := 1) (by decide) (by decide) (by decide) rfl (by simp only [cT, casesL, List.getElem?_cons_succ, List.getElem?_cons_zero, Option.getD_some]; try simp [flatL, begL, List.replicate, cEnd]) (by intro p hp; simp only [List.mem_cons, List.not_mem_nil, or_false] at hp; rcases hp with rfl <;> first | decide | exact B.nh | exact B.nj | exact B.nu) (by simp)).1
theorem c12 (B : Beg H I U n (.int v) ws) (L : Beg H dotL U n .non ws) : readOf (cT H I U 12) = .err 4 "form" := by
  have q := case_ok B (text := (cT H I U 12)) (rest := ([] : List Nat)) (ls := ([([] : List Nat)] : List (List Nat))) (a := 1) (b := 1) (by decide) (by decide) (by decide) rfl (by simp only [cT, casesL, List.getElem?_cons_succ, List.getElem?_cons_zero, Option.getD_some]; try simp [flatL, begL, List.replicate, cEnd]) (by intro p hp; simp only [List.mem_cons, List.not_mem_nil, or_false] at hp; rcases hp with rfl <;> first | decide | exact B.nh | exact B.nj | exact B.nu) (by simp)
  refine read_behind q.1 ?_
  rw [q.2]
  simp [begL, lastL, List.replicate]
theorem c13_ok (B : Beg H I U n (.int v) ws) (L : Beg H dotL U n .non ws) : resOf (cT H I U 13) = .ok (List.replicate 1 [.int v]) (List.replicate 1 ws) n 4 := by
  exact (case_ok B (text := (cT H I U 13)) (rest := ([] : List Nat)) (ls := ([([101, 110, 100] : List Nat)] : List (List Nat))) (a := 1) (b := 1) (by decide) (by decide) (by decide) rfl (by simp only [cT, casesL, List.getElem?_cons_succ, List.getElem?_cons_zero, Option.getD_some]; try simp [flatL, begL, List.replicate, cEnd]) (by intro p hp; simp only [List.mem_cons, List.not_mem_nil, or_false] at hp; rcases hp with rfl <;> first | decide | exact B.nh | exact B.nj | exact B.nu) (by simp)).1
theorem c13 (B : Beg H I U n (.int v) ws) (L : Beg H dotL U n .non ws) : readOf (cT H I U 13) = .err 4 "form" := by
  have q := case_ok B (text := (cT H I U 13)) (rest := ([] : List Nat)) (ls := ([([101, 110, 100] : List Nat)] : List (List Nat))) (a := 1) (b := 1) (by decide) (by decide) (by decide) rfl (by simp only [cT, casesL, List.getElem?_cons_succ, List.getElem?_cons_zero, Option.getD_some]; try simp [flatL, begL, List.replicate, cEnd]) (by intro p hp; simp only [List.mem_cons, List.not_mem_nil, or_false] at hp; rcases hp with rfl <;> first | decide | exact B.nh | exact B.nj | exact B.nu) (by simp)
  refine read_behind q.1 ?_
  rw [q.2]
  simp [begL, lastL, List.replicate]
theorem c14_ok (B : Beg H I U n (.int v) ws) (L : Beg H dotL U n .non ws) : resOf (cT H I U 14) = .ok (List.replicate 1 [.int v]) (List.replicate 1 ws) n 4 := by
  exact (case_ok B (text := (cT H I U 14)) (rest := ([120] : List Nat)) (ls := ([] : List (List Nat))) (a := 1) (b := 1) (by decide) (by decide) (by decide) rfl (by simp only [cT, casesL, List.getElem?_cons_succ, List.getElem?_cons_zero, Option.getD_some]; try simp [flatL, begL, List.replicate, cEnd]) (by simp) (by decide)).1
theorem c14 (B : Beg H I U n (.int v) ws) (L : Beg H dotL U n .non ws) : readOf (cT H I U 14) = .err 4 "form" := by
  have q := case_ok B (text := (cT H I U 14)) (rest := ([120] : List Nat)) (ls := ([] : List (List Nat))) (a := 1) (b := 1) (by decide) (by decide) (by decide) rfl (by simp only [cT, casesL, List.getElem?_cons_succ, List.getElem?_cons_zero, Option.getD_some]; try simp [flatL, begL, List.replicate, cEnd]) (by simp) (by decide)
  refine read_behind q.1 ?_
  rw [q.2]
  simp [begL, lastL, List.replicate]
theorem c15 (B : Beg H I U n (.int v) ws) (L : Beg H dotL U n .non ws) : resOf (cT H I U 15) = .err 3 "form" := by
  exact case_bad B (text := (cT H I U 15)) (rest := ([] : List Nat)) (l := ([119, 105, 110, 100] : List Nat)) (ls := [([101, 110, 100] : List Nat)]) (y := "form") (a := 1) (b := 1) (by decide) (by decide) (fun _ => ⟨by decide, rfl⟩) (by simp only [cT, casesL, List.getElem?_cons_succ, List.getElem?_cons_zero, Option.getD_some]; try simp [flatL, begL, List.replicate, cEnd]) (by decide) (by intro p hp; simp only [List.mem_cons, List.not_mem_nil, or_false] at hp; rcases hp with rfl <;> first | decide | exact B.nh | exact B.nj | exact B.nu) (by simp)
    (step_badWind (k := 2) (badWind_of [] (by decide +kernel) (.inr ⟨[], by rfl, by simp⟩)))
theorem c16 (B : Beg H I U n (.int v) ws) (L : Beg H dotL U n .non ws) : resOf (cT H I U 16) = .err 1 "form" := by
  exact case_bad B (text := (cT H I U 16)) (rest := ([] : List Nat)) (l := ([114, 111, 119] : List Nat)) (ls := []) (y := "form") (a := 0) (b := 0) (by decide) (by decide) (fun q => absurd q (by decide)) (by simp only [cT, casesL, List.getElem?_cons_succ, List.getElem?_cons_zero, Option.getD_some]; try simp [flatL, begL, List.replicate, cEnd]) (by decide) (by simp) (by simp)
    (step_badRow (k := 0) (badRow_of [] (by decide +kernel) (.inr ⟨[], by rfl, by simp⟩)))
theorem c17 (B : Beg H I U n (.int v) ws) (L : Beg H dotL U n .non ws) : resOf (cT H I U 17) = .err 1 "form" := by
  exact case_bad B (text := (cT H I U 17)) (rest := ([] : List Nat)) (l := ([114, 111, 119, 32] : List Nat)) (ls := []) (y := "form") (a := 0) (b := 0) (by decide) (by decide) (fun q => absurd q (by decide)) (by simp only [cT, casesL, List.getElem?_cons_succ, List.getElem?_cons_zero, Option.getD_some]; try simp [flatL, begL, List.replicate, cEnd]) (by decide) (by simp) (by simp)
    (step_badRow (k := 0) (badRow_of [([] : List Nat)] (by decide +kernel) (.inl (by rfl))))
theorem c18 (B : Beg H I U n (.int v) ws) (L : Beg H dotL U n .non ws) : resOf (cT H I U 18) = .err 1 "form" := by
  exact case_bad B (text := (cT H I U 18)) (rest := ([] : List Nat)) (l := ([114, 111, 119, 32, 48, 32, 48, 32, 48, 32, 48, 32, 48, 32, 48, 32, 48] : List Nat)) (ls := []) (y := "form") (a := 0) (b := 0) (by decide) (by decide) (fun q => absurd q (by decide)) (by simp only [cT, casesL, List.getElem?_cons_succ, List.getElem?_cons_zero, Option.getD_some]; try simp [flatL, begL, List.replicate, cEnd]) (by decide) (by simp) (by simp)
    (step_badRow (k := 0) (badRow_of [([48] : List Nat), ([48] : List Nat), ([48] : List Nat), ([48] : List Nat), ([48] : List Nat), ([48] : List Nat), ([48] : List Nat)] (by decide +kernel) (.inr ⟨[D.int 0, D.int 0, D.int 0, D.int 0, D.int 0, D.int 0, D.int 0], by rfl, by simp⟩)))
theorem c19 (B : Beg H I U n (.int v) ws) (L : Beg H dotL U n .non ws) : resOf (cT H I U 19) = .err 1 "form" := by
  exact case_bad B (text := (cT H I U 19)) (rest := ([] : List Nat)) (l := ([114, 111, 119, 32, 45] : List Nat)) (ls := []) (y := "form") (a := 0) (b := 0) (by decide) (by decide) (fun q => absurd q (by decide)) (by simp only [cT, casesL, List.getElem?_cons_succ, List.getElem?_cons_zero, Option.getD_some]; try simp [flatL, begL, List.replicate, cEnd]) (by decide) (by simp) (by simp)
    (step_badRow (k := 0) (badRow_of [([45] : List Nat)] (by decide +kernel) (.inl (by rfl))))
theorem c20 (B : Beg H I U n (.int v) ws) (L : Beg H dotL U n .non ws) : resOf (cT H I U 20) = .err 1 "form" := by
  exact case_bad B (text := (cT H I U 20)) (rest := ([] : List Nat)) (l := ([114, 111, 119, 32, 49, 48, 48] : List Nat)) (ls := []) (y := "form") (a := 0) (b := 0) (by decide) (by decide) (fun q => absurd q (by decide)) (by simp only [cT, casesL, List.getElem?_cons_succ, List.getElem?_cons_zero, Option.getD_some]; try simp [flatL, begL, List.replicate, cEnd]) (by decide) (by simp) (by simp)
    (step_badRow (k := 0) (badRow_of [([49, 48, 48] : List Nat)] (by decide +kernel) (.inl (by rfl))))
theorem c21 (B : Beg H I U n (.int v) ws) (L : Beg H dotL U n .non ws) : resOf (cT H I U 21) = .err 1 "form" := by
  exact case_bad B (text := (cT H I U 21)) (rest := ([] : List Nat)) (l := ([114, 111, 119, 32, 48, 48] : List Nat)) (ls := []) (y := "form") (a := 0) (b := 0) (by decide) (by decide) (fun q => absurd q (by decide)) (by simp only [cT, casesL, List.getElem?_cons_succ, List.getElem?_cons_zero, Option.getD_some]; try simp [flatL, begL, List.replicate, cEnd]) (by decide) (by simp) (by simp)
    (step_badRow (k := 0) (badRow_of [([48, 48] : List Nat)] (by decide +kernel) (.inl (by rfl))))
theorem c22 (B : Beg H I U n (.int v) ws) (L : Beg H dotL U n .non ws) : resOf (cT H I U 22) = .err 1 "form" := by
  exact case_bad B (text := (cT H I U 22)) (rest := ([] : List Nat)) (l := ([114, 111, 119, 32, 43, 49] : List Nat)) (ls := []) (y := "form") (a := 0) (b := 0) (by decide) (by decide) (fun q => absurd q (by decide)) (by simp only [cT, casesL, List.getElem?_cons_succ, List.getElem?_cons_zero, Option.getD_some]; try simp [flatL, begL, List.replicate, cEnd]) (by decide) (by simp) (by simp)
    (step_badRow (k := 0) (badRow_of [([43, 49] : List Nat)] (by decide +kernel) (.inl (by rfl))))
theorem c23 (B : Beg H I U n (.int v) ws) (L : Beg H dotL U n .non ws) : resOf (cT H I U 23) = .err 1 "form" := by
  exact case_bad B (text := (cT H I U 23)) (rest := ([] : List Nat)) (l := ([32, 114, 111, 119, 32, 48] : List Nat)) (ls := []) (y := "form") (a := 0) (b := 0) (by decide) (by decide) (fun q => absurd q (by decide)) (by simp only [cT, casesL, List.getElem?_cons_succ, List.getElem?_cons_zero, Option.getD_some]; try simp [flatL, begL, List.replicate, cEnd]) (by decide) (by simp) (by simp)
    (step_oth (k := 0) ⟨by decide +kernel, by decide +kernel, by decide⟩)
theorem c24 (B : Beg H I U n (.int v) ws) (L : Beg H dotL U n .non ws) : resOf (cT H I U 24) = .err 7 "many" := by
  exact case_bad B (text := (cT H I U 24)) (rest := ([] : List Nat)) (l := I) (ls := []) (y := "many") (a := 6) (b := 0) (by decide) (by decide) (fun q => absurd q (by decide)) (by simp only [cT, casesL, List.getElem?_cons_succ, List.getElem?_cons_zero, Option.getD_some]; try simp [flatL, begL, List.replicate, cEnd]) B.nj (by simp) (by simp)
    ((step_row (k := 6) B.j).trans (by simp))
theorem c25 (B : Beg H I U n (.int v) ws) (L : Beg H dotL U n .non ws) : resOf (cT H I U 25) = .err 7 "many" := by
  exact case_bad B (text := (cT H I U 25)) (rest := ([] : List Nat)) (l := ([114, 111, 119, 32, 48, 32, 48] : List Nat)) (ls := []) (y := "many") (a := 6) (b := 0) (by decide) (by decide) (fun q => absurd q (by decide)) (by simp only [cT, casesL, List.getElem?_cons_succ, List.getElem?_cons_zero, Option.getD_some]; try simp [flatL, begL, List.replicate, cEnd]) (by decide) (by simp) (by simp)
    ((step_row (k := 6) (xs := [D.int 0, D.int 0]) ⟨[([48] : List Nat), ([48] : List Nat)], by decide +kernel, by rfl, by decide, by decide⟩).trans (by simp [List.replicate]))
theorem c26 (B : Beg H I U n (.int v) ws) (L : Beg H dotL U n .non ws) : resOf (cT H I U 26) = .err 7 "form" := by
  exact case_bad B (text := (cT H I U 26)) (rest := ([] : List Nat)) (l := ([114, 111, 119] : List Nat)) (ls := []) (y := "form") (a := 6) (b := 0) (by decide) (by decide) (fun q => absurd q (by decide)) (by simp only [cT, casesL, List.getElem?_cons_succ, List.getElem?_cons_zero, Option.getD_some]; try simp [flatL, begL, List.replicate, cEnd]) (by decide) (by simp) (by simp)
    (step_badRow (k := 6) (badRow_of [] (by decide +kernel) (.inr ⟨[], by rfl, by simp⟩)))
theorem c27 (B : Beg H I U n (.int v) ws) (L : Beg H dotL U n .non ws) : resOf (cT H I U 27) = .err 2 "uneven" := by
  exact case_bad B (text := (cT H I U 27)) (rest := ([] : List Nat)) (l := ([114, 111, 119, 32, 48, 32, 48] : List Nat)) (ls := []) (y := "uneven") (a := 1) (b := 0) (by decide) (by decide) (fun q => absurd q (by decide)) (by simp only [cT, casesL, List.getElem?_cons_succ, List.getElem?_cons_zero, Option.getD_some]; try simp [flatL, begL, List.replicate, cEnd]) (by decide) (by simp) (by simp)
    ((step_row (k := 1) (xs := [D.int 0, D.int 0]) ⟨[([48] : List Nat), ([48] : List Nat)], by decide +kernel, by rfl, by decide, by decide⟩).trans (by simp [List.replicate]))
theorem c28 (B : Beg H I U n (.int v) ws) (L : Beg H dotL U n .non ws) : resOf (cT H I U 28) = .err 2 "uneven" := by
  exact case_bad B (text := (cT H I U 28)) (rest := ([] : List Nat)) (l := ([114, 111, 119, 32, 46, 32, 46] : List Nat)) (ls := [([101, 110, 100] : List Nat)]) (y := "uneven") (a := 1) (b := 0) (by decide) (by decide) (fun q => absurd q (by decide)) (by simp only [cT, casesL, List.getElem?_cons_succ, List.getElem?_cons_zero, Option.getD_some]; try simp [flatL, begL, List.replicate, cEnd]) (by decide) (by intro p hp; simp only [List.mem_cons, List.not_mem_nil, or_false] at hp; rcases hp with rfl <;> first | decide | exact B.nh | exact B.nj | exact B.nu) (by simp)
    ((step_row (k := 1) (xs := [D.non, D.non]) ⟨[([46] : List Nat), ([46] : List Nat)], by decide +kernel, by rfl, by decide, by decide⟩).trans (by simp [List.replicate]))
theorem c29 (B : Beg H I U n (.int v) ws) (L : Beg H dotL U n .non ws) : resOf (cT H I U 29) = .err 10 "many" := by
  exact case_bad B (text := (cT H I U 29)) (rest := ([] : List Nat)) (l := U) (ls := []) (y := "many") (a := 1) (b := 8) (by decide) (by decide) (fun _ => ⟨by decide, rfl⟩) (by simp only [cT, casesL, List.getElem?_cons_succ, List.getElem?_cons_zero, Option.getD_some]; try simp [flatL, begL, List.replicate, cEnd]) B.nu (by simp) (by simp)
    ((step_wind (k := 9) B.u).trans (by simp [water, water_rep, land_rep, DL.isNon]))
theorem c30 (B : Beg H I U n (.int v) ws) (L : Beg H dotL U n .non ws) : resOf (cT H I U 30) = .err 10 "form" := by
  exact case_bad B (text := (cT H I U 30)) (rest := ([] : List Nat)) (l := ([119, 105, 110, 100, 32, 48] : List Nat)) (ls := []) (y := "form") (a := 1) (b := 8) (by decide) (by decide) (fun _ => ⟨by decide, rfl⟩) (by simp only [cT, casesL, List.getElem?_cons_succ, List.getElem?_cons_zero, Option.getD_some]; try simp [flatL, begL, List.replicate, cEnd]) (by decide) (by simp) (by simp)
    (step_badWind (k := 9) (badWind_of [([48] : List Nat)] (by decide +kernel) (.inr ⟨[D.int 0], by rfl, by simp⟩)))
theorem c31 (B : Beg H I U n (.int v) ws) (L : Beg H dotL U n .non ws) : resOf (cT H I U 31) = .err 10 "form" := by
  exact case_bad B (text := (cT H I U 31)) (rest := ([] : List Nat)) (l := I) (ls := []) (y := "form") (a := 1) (b := 8) (by decide) (by decide) (fun _ => ⟨by decide, rfl⟩) (by simp only [cT, casesL, List.getElem?_cons_succ, List.getElem?_cons_zero, Option.getD_some]; try simp [flatL, begL, List.replicate, cEnd]) B.nj (by simp) (by simp)
    ((step_row (k := 9) B.j).trans (by simp))
theorem c32 (B : Beg H I U n (.int v) ws) (L : Beg H dotL U n .non ws) : resOf (cT H I U 32) = .err 2 "land" := by
  exact case_bad L (text := (cT H I U 32)) (rest := ([] : List Nat)) (l := U) (ls := []) (y := "land") (a := 1) (b := 0) (by decide) (by decide) (fun q => absurd q (by decide)) (by simp only [cT, casesL, List.getElem?_cons_succ, List.getElem?_cons_zero, Option.getD_some]; try simp [flatL, begL, List.replicate, cEnd]) B.nu (by simp) (by simp)
    ((step_wind (k := 1) B.u).trans (by simp [water, water_rep, land_rep, DL.isNon]))
theorem c33 (B : Beg H I U n (.int v) ws) (L : Beg H dotL U n .non ws) : resOf (cT H I U 33) = .err 2 "land" := by
  exact case_bad L (text := (cT H I U 33)) (rest := ([] : List Nat)) (l := ([101, 110, 100] : List Nat)) (ls := []) (y := "land") (a := 1) (b := 0) (by decide) (by decide) (fun q => absurd q (by decide)) (by simp only [cT, casesL, List.getElem?_cons_succ, List.getElem?_cons_zero, Option.getD_some]; try simp [flatL, begL, List.replicate, cEnd]) (by decide) (by simp) (by simp)
    ((step_end (k := 1)).trans (by simp [water, land_rep, DL.isNon]))
theorem c34 (B : Beg H I U n (.int v) ws) (L : Beg H dotL U n .non ws) : resOf (cT H I U 34) = .err 4 "form" := by
  exact case_bad L (text := (cT H I U 34)) (rest := ([] : List Nat)) (l := ([119, 105, 110, 100, 32, 48] : List Nat)) (ls := []) (y := "form") (a := 3) (b := 0) (by decide) (by decide) (fun q => absurd q (by decide)) (by simp only [cT, casesL, List.getElem?_cons_succ, List.getElem?_cons_zero, Option.getD_some]; try simp [flatL, begL, List.replicate, cEnd]) (by decide) (by simp) (by simp)
    (step_badWind (k := 3) (badWind_of [([48] : List Nat)] (by decide +kernel) (.inr ⟨[D.int 0], by rfl, by simp⟩)))
theorem c35 (B : Beg H I U n (.int v) ws) (L : Beg H dotL U n .non ws) : resOf (cT H I U 35) = .err 7 "many" := by
  exact case_bad L (text := (cT H I U 35)) (rest := ([] : List Nat)) (l := ([114, 111, 119, 32, 48] : List Nat)) (ls := []) (y := "many") (a := 6) (b := 0) (by decide) (by decide) (fun q => absurd q (by decide)) (by simp only [cT, casesL, List.getElem?_cons_succ, List.getElem?_cons_zero, Option.getD_some]; try simp [flatL, begL, List.replicate, cEnd]) (by decide) (by simp) (by simp)
    ((step_row (k := 6) (xs := [D.int 0]) ⟨[([48] : List Nat)], by decide +kernel, by rfl, by decide, by decide⟩).trans (by simp [List.replicate]))
theorem c36 (B : Beg H I U n (.int v) ws) (L : Beg H dotL U n .non ws) : resOf (cT H I U 36) = .err 2 "form" := by
  have q := case_end L (text := (cT H I U 36)) (rest := ([101, 110, 100] : List Nat)) (a := 1) (b := 0) (by decide) (by decide) (fun q => absurd q (by decide)) (by simp only [cT, casesL, List.getElem?_cons_succ, List.getElem?_cons_zero, Option.getD_some]; try simp [flatL, begL, List.replicate, cEnd]) (by decide)
  exact q
theorem c37 (B : Beg H I U n (.int v) ws) (L : Beg H dotL U n .non ws) : resOf (cT H I U 37) = .err 2 "form" := by
  exact case_bad B (text := (cT H I U 37)) (rest := ([] : List Nat)) (l := ([119, 105, 110, 100, 32, 48, 32, 48, 32, 48, 32, 48] : List Nat)) (ls := []) (y := "form") (a := 1) (b := 0) (by decide) (by decide) (fun q => absurd q (by decide)) (by simp only [cT, casesL, List.getElem?_cons_succ, List.getElem?_cons_zero, Option.getD_some]; try simp [flatL, begL, List.replicate, cEnd]) (by decide) (by simp) (by simp)
    (step_badWind (k := 1) (badWind_of [([48] : List Nat), ([48] : List Nat), ([48] : List Nat), ([48] : List Nat)] (by decide +kernel) (.inr ⟨[D.int 0, D.int 0, D.int 0, D.int 0], by rfl, by simp⟩)))
theorem c38 (B : Beg H I U n (.int v) ws) (L : Beg H dotL U n .non ws) : resOf (cT H I U 38) = .err 2 "form" := by
  exact case_bad B (text := (cT H I U 38)) (rest := ([] : List Nat)) (l := ([119, 105, 110, 100, 32, 48, 32, 48, 32, 48, 32, 48, 32, 46] : List Nat)) (ls := []) (y := "form") (a := 1) (b := 0) (by decide) (by decide) (fun q => absurd q (by decide)) (by simp only [cT, casesL, List.getElem?_cons_succ, List.getElem?_cons_zero, Option.getD_some]; try simp [flatL, begL, List.replicate, cEnd]) (by decide) (by simp) (by simp)
    (step_badWind (k := 1) (badWind_of [([48] : List Nat), ([48] : List Nat), ([48] : List Nat), ([48] : List Nat), ([46] : List Nat)] (by decide +kernel) (.inl (by rfl))))
theorem c39 (B : Beg H I U n (.int v) ws) (L : Beg H dotL U n .non ws) : resOf (cT H I U 39) = .err 2 "form" := by
  exact case_bad B (text := (cT H I U 39)) (rest := ([] : List Nat)) (l := ([119, 105, 110, 100, 32, 48, 32, 48, 32, 48, 32, 48, 32, 48, 32, 48] : List Nat)) (ls := []) (y := "form") (a := 1) (b := 0) (by decide) (by decide) (fun q => absurd q (by decide)) (by simp only [cT, casesL, List.getElem?_cons_succ, List.getElem?_cons_zero, Option.getD_some]; try simp [flatL, begL, List.replicate, cEnd]) (by decide) (by simp) (by simp)
    (step_badWind (k := 1) (badWind_of [([48] : List Nat), ([48] : List Nat), ([48] : List Nat), ([48] : List Nat), ([48] : List Nat), ([48] : List Nat)] (by decide +kernel) (.inr ⟨[D.int 0, D.int 0, D.int 0, D.int 0, D.int 0, D.int 0], by rfl, by simp⟩)))
theorem c40 (B : Beg H I U n (.int v) ws) (L : Beg H dotL U n .non ws) : resOf (cT H I U 40) = .err 2 "form" := by
  exact case_bad B (text := (cT H I U 40)) (rest := ([] : List Nat)) (l := ([119, 105, 110, 100, 32, 48, 32, 48, 32, 32, 48, 32, 48] : List Nat)) (ls := []) (y := "form") (a := 1) (b := 0) (by decide) (by decide) (fun q => absurd q (by decide)) (by simp only [cT, casesL, List.getElem?_cons_succ, List.getElem?_cons_zero, Option.getD_some]; try simp [flatL, begL, List.replicate, cEnd]) (by decide) (by simp) (by simp)
    (step_badWind (k := 1) (badWind_of [([48] : List Nat), ([48] : List Nat), ([] : List Nat), ([48] : List Nat), ([48] : List Nat)] (by decide +kernel) (.inl (by rfl))))
theorem c41 (B : Beg H I U n (.int v) ws) (L : Beg H dotL U n .non ws) : resOf (cT H I U 41) = .err 2 "form" := by
  exact case_bad B (text := (cT H I U 41)) (rest := ([] : List Nat)) (l := ([119, 105, 110, 100, 32, 48, 32, 48, 32, 48, 32, 48, 32, 49, 48, 48] : List Nat)) (ls := []) (y := "form") (a := 1) (b := 0) (by decide) (by decide) (fun q => absurd q (by decide)) (by simp only [cT, casesL, List.getElem?_cons_succ, List.getElem?_cons_zero, Option.getD_some]; try simp [flatL, begL, List.replicate, cEnd]) (by decide) (by simp) (by simp)
    (step_badWind (k := 1) (badWind_of [([48] : List Nat), ([48] : List Nat), ([48] : List Nat), ([48] : List Nat), ([49, 48, 48] : List Nat)] (by decide +kernel) (.inl (by rfl))))
theorem c42 (B : Beg H I U n (.int v) ws) (L : Beg H dotL U n .non ws) : resOf (cT H I U 42) = .err 0 "form" := by
  have q := case_nil (text := (cT H I U 42)) (rest := H) (by simp only [cT, casesL, List.getElem?_cons_succ, List.getElem?_cons_zero, Option.getD_some]; try simp [flatL, begL, List.replicate, cEnd]) B.nh
  rw [if_neg (by rintro rfl; exact absurd B.h (by rw [show topOf (sp1 32 []) = none by decide +kernel]; simp))] at q
  exact q
theorem c43 (B : Beg H I U n (.int v) ws) (L : Beg H dotL U n .non ws) : resOf (cT H I U 43) = .err 1 "form" := by
  have q := case_end B (text := (cT H I U 43)) (rest := I) (a := 0) (b := 0) (by decide) (by decide) (fun q => absurd q (by decide)) (by simp only [cT, casesL, List.getElem?_cons_succ, List.getElem?_cons_zero, Option.getD_some]; try simp [flatL, begL, List.replicate, cEnd]) B.nj
  rw [if_neg (by rintro rfl; obtain ⟨z, hz, -⟩ := B.j; exact absurd hz (by rw [show sp1 32 [] = [[]] by decide +kernel]; simp; intro q; exact absurd q (by decide)))] at q
  exact q
theorem cases_ok (B : Beg H I U n (.int v) ws) (L : Beg H dotL U n .non ws) : ∀ c ∈ casesL (H ++ [10]) (I ++ [10]) (U ++ [10]), readOf c.1 = .err c.2.1 c.2.2 ∧ ((∃ t, c.1 = (H ++ [10] ++ (I ++ [10]) ++ (U ++ [10])) ++ ([101, 110, 100, 10] ++ t) ∧ ∃ rows winds, resOf c.1 = .ok rows winds n 4) ∨ resOf c.1 = .err c.2.1 c.2.2) := by
  intro c hc
  simp only [casesL, List.mem_cons, List.not_mem_nil, or_false] at hc
  rcases hc with rfl | rfl | rfl | rfl | rfl | rfl | rfl | rfl | rfl | rfl | rfl | rfl | rfl | rfl | rfl | rfl | rfl | rfl | rfl | rfl | rfl | rfl | rfl | rfl | rfl | rfl | rfl | rfl | rfl | rfl | rfl | rfl | rfl | rfl | rfl | rfl | rfl | rfl | rfl | rfl | rfl | rfl | rfl | rfl
  · exact ⟨read_err (c0 B L), .inr (c0 B L)⟩
  · exact ⟨read_err (c1 B L), .inr (c1 B L)⟩
  · exact ⟨read_err (c2 B L), .inr (c2 B L)⟩
  · exact ⟨read_err (c3 B L), .inr (c3 B L)⟩
  · exact ⟨read_err (c4 B L), .inr (c4 B L)⟩
  · exact ⟨read_err (c5 B L), .inr (c5 B L)⟩
  · exact ⟨read_err (c6 B L), .inr (c6 B L)⟩
  · exact ⟨read_err (c7 B L), .inr (c7 B L)⟩
  · exact ⟨read_err (c8 B L), .inr (c8 B L)⟩
  · exact ⟨read_err (c9 B L), .inr (c9 B L)⟩
  · exact ⟨read_err (c10 B L), .inr (c10 B L)⟩
  · exact ⟨read_err (c11 B L), .inr (c11 B L)⟩
  · exact ⟨c12 B L, .inl ⟨[10], by simp, _, _, c12_ok B L⟩⟩
  · exact ⟨c13 B L, .inl ⟨[101, 110, 100, 10], by simp, _, _, c13_ok B L⟩⟩
  · exact ⟨c14 B L, .inl ⟨[120], by simp, _, _, c14_ok B L⟩⟩
  · exact ⟨read_err (c15 B L), .inr (c15 B L)⟩
  · exact ⟨read_err (c16 B L), .inr (c16 B L)⟩
  · exact ⟨read_err (c17 B L), .inr (c17 B L)⟩
  · exact ⟨read_err (c18 B L), .inr (c18 B L)⟩
  · exact ⟨read_err (c19 B L), .inr (c19 B L)⟩
  · exact ⟨read_err (c20 B L), .inr (c20 B L)⟩
  · exact ⟨read_err (c21 B L), .inr (c21 B L)⟩
  · exact ⟨read_err (c22 B L), .inr (c22 B L)⟩
  · exact ⟨read_err (c23 B L), .inr (c23 B L)⟩
  · exact ⟨read_err (c24 B L), .inr (c24 B L)⟩
  · exact ⟨read_err (c25 B L), .inr (c25 B L)⟩
  · exact ⟨read_err (c26 B L), .inr (c26 B L)⟩
  · exact ⟨read_err (c27 B L), .inr (c27 B L)⟩
  · exact ⟨read_err (c28 B L), .inr (c28 B L)⟩
  · exact ⟨read_err (c29 B L), .inr (c29 B L)⟩
  · exact ⟨read_err (c30 B L), .inr (c30 B L)⟩
  · exact ⟨read_err (c31 B L), .inr (c31 B L)⟩
  · exact ⟨read_err (c32 B L), .inr (c32 B L)⟩
  · exact ⟨read_err (c33 B L), .inr (c33 B L)⟩
  · exact ⟨read_err (c34 B L), .inr (c34 B L)⟩
  · exact ⟨read_err (c35 B L), .inr (c35 B L)⟩
  · exact ⟨read_err (c36 B L), .inr (c36 B L)⟩
  · exact ⟨read_err (c37 B L), .inr (c37 B L)⟩
  · exact ⟨read_err (c38 B L), .inr (c38 B L)⟩
  · exact ⟨read_err (c39 B L), .inr (c39 B L)⟩
  · exact ⟨read_err (c40 B L), .inr (c40 B L)⟩
  · exact ⟨read_err (c41 B L), .inr (c41 B L)⟩
  · exact ⟨read_err (c42 B L), .inr (c42 B L)⟩
  · exact ⟨read_err (c43 B L), .inr (c43 B L)⟩
end
end K08
/-! The defs of this law keep their promises, over data: the lists of texts. -/
namespace K08
open PySem L2 DL HS
open SX (S)
theorem S_app (a b : List Nat) : S a ++ S b = S (a ++ b) := SX.S_cat a b
theorem cutS_S (l : List Nat) (lo hi : Option Int) : cutS (S l) lo hi = S (cut l lo hi) := by
  have := cutS_tl (S l) lo hi
  generalize cutS (S l) lo hi = z at this
  cases z with
  | mk a =>
    simp [SX.S] at this ⊢
    rw [← this]
theorem cut_lastN (l : List Nat) : cut l none (some (-1)) = l.dropLast := by
  unfold cut
  rw [HT.sIx_none]
  have e : HT.sIx l.length l.length (some (-1)) = l.length - 1 := by
    unfold HT.sIx; simp; omega
  rw [e]
  simp [List.dropLast_eq_take]
theorem repS_S (l : List Nat) (n : Nat) : repS (S l) n = S (List.replicate n l).flatten := by
  induction n with
  | zero => rfl
  | succ m ih =>
    have e : repS (S l) (m + 1) = ⟨(repS (S l) m).cps ++ (S l).cps⟩ := by
      unfold repS
      rw [List.replicate_succ', List.foldl_append]; rfl
    rw [e, ih, List.replicate_succ', List.flatten_append]
    simp [SX.S]
/-- an expression that tells a text -/
def EvS (ρ : DEnv) (te : DE) (l : List Nat) : Prop := ∀ M Q, Q (.str (S l)) M → te ρ M Q
def EvL (ρ : DEnv) (ta : DA) (cs : List (List Nat × Nat × Str)) : Prop := ∀ M Q, Q (cs.map caseD) M → ta ρ M Q
section
variable {ρ : DEnv} {ta tb te : DE} {l m : List Nat}
theorem evC {s : Str} (h : s = S l) : EvS ρ (dC (.str s)) l := fun M Q q => by subst h; exact q
theorem evV {i : Nat} (h : ρ[i]? = some (some (.str (S l)))) : EvS ρ (dVar i) l := fun M Q q => by simp only [dVar, h]; exact q
theorem evAdd (ha : EvS ρ ta l) (hb : EvS ρ tb m) (hl : l.length + m.length ≤ 100000) : EvS ρ (dOp addD ta tb) (l ++ m) := fun M Q q => by
  refine ha M _ (hb M _ ?_)
  refine ⟨by rw [S_len, S_len]; exact hl, ?_⟩
  rw [S_app]; exact q
theorem evMul {z : Int} {n : Nat} (ha : EvS ρ ta l) (hz : z = (n : Int)) (hn : n ≤ 1000) (hl : l.length ≤ 100) : EvS ρ (dOp mulE ta (dC (.int z))) (List.replicate n l).flatten := fun M Q q => by
  subst hz
  refine ha M _ ?_
  refine ⟨by omega, by omega, by rw [S_len]; exact hl, ?_⟩
  rw [Int.toNat_natCast, repS_S]; exact q
theorem evCut (ha : EvS ρ ta l) (hl : l.length ≤ 100000) : EvS ρ (dSl ta dNoPart (dPart (dNeg (dC (.int 1))))) l.dropLast := fun M Q q => by
  refine ha M _ ?_
  show slD (.str (S l)) none (some (-1)) M Q
  refine ⟨by rw [S_len]; exact hl, ?_⟩
  rw [cutS_S, cut_lastN]; exact q
theorem evNil : EvL ρ dNil [] := fun M Q q => q
theorem evCons {z : Int} {k : Nat} {y : Str} {tl : DA} {cs : List (List Nat × Nat × Str)} (ha : EvS ρ te l) (hz : z = (k : Int)) (h : EvL ρ tl cs) : EvL ρ (dCons (dTup (dCons te (dCons (dTup (dCons (dC (.int z)) (dCons (dC (.str y)) dNil))) dNil))) tl) ((l, k, y) :: cs) := fun M Q q => by
  subst hz
  refine ha M _ ?_
  refine ⟨by simp, by simp, ?_⟩
  exact h M _ q
end
theorem pure__law_cases : ∀ ds M Q E, sp__law_cases ds M Q E → ds.length = (["_law_head", "_law_item", "_law_gust"] : List Str).length ∧ t__law_cases { nx := fun _ M' => Q .non M', rt := Q } (startD ["_law_head", "_law_item", "_law_gust", "_law_good"] ds) M := by
  rintro ds M Q E ⟨h, i, g, rfl, h0, i0, hh, hi, hg, q⟩
  refine ⟨rfl, ?_⟩
  show t__law_cases _ [some (.str (S h)), some (.str (S i)), some (.str (S g)), none] M
  have e : EvS [some (.str (S h)), some (.str (S i)), some (.str (S g)), none] (dOp addD (dOp addD (dVar 0) (dVar 1)) (dVar 2)) (h ++ i ++ g) := by repeat' (first | exact evV rfl | exact evC (by decide +kernel) | refine evMul ?_ rfl (by decide) ?_ | refine evCut ?_ ?_ | refine evAdd ?_ ?_ ?_ | ((try simp only [List.length_append, List.length_flatten, List.map_replicate, List.sum_replicate_nat, List.length_cons, List.length_nil, List.length_dropLast]); omega))
  refine e M _ ?_
  show t__law_cases_1 _ [some (.str (S h)), some (.str (S i)), some (.str (S g)), some (.str (S (h ++ i ++ g)))] M
  refine (?_ : EvL [some (.str (S h)), some (.str (S i)), some (.str (S g)), some (.str (S (h ++ i ++ g)))] _ (casesL h i g)) M _ ?_
  · unfold casesL
    repeat (refine evCons (by repeat' (first | exact evV rfl | exact evC (by decide +kernel) | refine evMul ?_ rfl (by decide) ?_ | refine evCut ?_ ?_ | refine evAdd ?_ ?_ ?_ | ((try simp only [List.length_append, List.length_flatten, List.map_replicate, List.sum_replicate_nat, List.length_cons, List.length_nil, List.length_dropLast]); omega))) rfl ?_)
    exact evNil
  · exact ⟨by simp [casesL], q⟩
theorem pure__law_heads : ∀ ds M Q E, sp__law_heads ds M Q E → ds.length = ([] : List Str).length ∧ t__law_heads { nx := fun _ M' => Q .non M', rt := Q } (startD [] ds) M := by
  rintro ds M Q E ⟨rfl, q⟩
  refine ⟨rfl, ?_⟩
  simp only [t__law_heads, dRet, dLst, dCons, dNil, dC]
  refine ⟨by simp, ?_⟩
  have e : ([.str "chart\n", .str "chart 0\n", .str "chart 100\n", .str "chart 09\n", .str "chart 9 9\n", .str "chart  9\n", .str "chart -\n", .str "chart .\n", .str "Chart 9\n", .str "chart9\n", .str "chart +9\n", .str " chart 9\n", .str "chart 9 \n", .str "\n", .str "chart nine\n", .str "chart 1e1\n", .str "chart 999999999\n"] : List D) = txs (headsL.map (· ++ [10])) := by
    simp only [txs, headsL, List.map_cons, List.map_nil, List.cons.injEq, D.str.injEq, List.cons_append, List.nil_append]
    decide +kernel
  rw [e]
  exact q
end K08
/-! The defs of this law keep their promises, over data: what is drawn. -/
namespace K08
open PySem L2 DL HS
open SX (S)
/-! ### words of winds -/
def gw (w : List Nat) : Prop := w = [45] ∨ (canonB w = true ∧ w.length ≤ 2)
theorem canon_dig {w : List Nat} (h : canonB w = true) : ∀ c ∈ w, 48 ≤ c ∧ c ≤ 57 := by
  intro c hc
  simp only [canonB, Bool.and_eq_true, List.all_eq_true] at h
  have := h.1.1 c hc
  simpa [isDig] using this
theorem canon_of {n : Nat} (h : n ≤ 99) : canonB (TL.numL n) = true ∧ (TL.numL n).length ≤ 2 := by
  rcases num2 n h with ⟨h1, e⟩ | ⟨h1, d, f, d1, d9, f9, h2, e⟩
  · rw [e]
    refine ⟨?_, by simp⟩
    by_cases h0 : n = 0
    · subst h0; rfl
    · simp [canonB, isDig]; omega
  · rw [e]
    refine ⟨?_, by simp⟩
    simp [canonB, isDig]; omega
theorem val_of {n : Nat} (h : n ≤ 99) : valL (TL.numL n) = n := by
  rcases num2 n h with ⟨h1, e⟩ | ⟨h1, d, f, d1, d9, f9, h2, e⟩
  · rw [e]; simp [valL, NumText.digitsVal]
  · rw [e, h2]; simp [valL, NumText.digitsVal]; omega
theorem gw_ch {w : List Nat} (h : gw w) : ∀ c ∈ w, c = 45 ∨ (48 ≤ c ∧ c ≤ 57) := by
  intro c hc
  rcases h with rfl | h
  · simp at hc; exact .inl hc
  · exact .inr (canon_dig h.1 c hc)
theorem gw_len {w : List Nat} (h : gw w) : w.length ≤ 2 := by
  rcases h with rfl | h
  · simp
  · exact h.2
theorem items_gw : ∀ {ws : List (List Nat)}, (∀ w ∈ ws, gw w) → ∃ xs, items 45 ws = some xs ∧ xs.length = ws.length
  | [], _ => ⟨[], rfl, rfl⟩
  | w :: ws, h => by
    obtain ⟨xs, e, hl⟩ := items_gw (ws := ws) fun x hx => h x (List.mem_cons_of_mem _ hx)
    rcases h w List.mem_cons_self with rfl | ⟨h1, h2⟩
    · exact ⟨.non :: xs, by simp [items, wordI, e], by simp [hl]⟩
    · by_cases h0 : w = [45]
      · exact ⟨.non :: xs, by simp [items, wordI, h0, e], by simp [hl]⟩
      · exact ⟨.int (valL w) :: xs, by simp [items, wordI, h0, h1, h2, e], by simp [hl]⟩
theorem wind_of {ws : List (List Nat)} (hl : ws.length = 5) (h : ∀ w ∈ ws, gw w) : ∃ xs, windLn (TL.joinL [32] (cWind :: ws)) xs := by
  obtain ⟨xs, e, he⟩ := items_gw h
  refine ⟨xs, ws, ?_, e, by omega⟩
  refine TL.spl_join (by simp) fun p hp hc => ?_
  rcases List.mem_cons.mp hp with rfl | hp
  · exact absurd hc (by decide)
  · have := gw_ch (h p hp) 32 hc; omega
theorem joinL_ch {sp : List Nat} {P : Nat → Prop} (hs : ∀ c ∈ sp, P c) : ∀ {ws : List (List Nat)}, (∀ w ∈ ws, ∀ c ∈ w, P c) → ∀ c ∈ TL.joinL sp ws, P c
  | [], _, c, hc => by simp [TL.joinL] at hc
  | [a], h, c, hc => h a List.mem_cons_self c (by simpa [TL.joinL] using hc)
  | a :: b :: ws, h, c, hc => by
    simp only [TL.joinL, List.mem_append] at hc
    rcases hc with hc | hc | hc
    · exact h a List.mem_cons_self c hc
    · exact hs c hc
    · exact joinL_ch hs (fun w hw => h w (List.mem_cons_of_mem _ hw)) c hc
theorem wind_nl {ws : List (List Nat)} (h : ∀ w ∈ ws, gw w) : 10 ∉ TL.joinL [32] (cWind :: ws) := fun hc => by
  have := joinL_ch (P := fun c => c ≠ 10) (sp := [32]) (by simp) (ws := cWind :: ws) (fun w hw c hc => by
    rcases List.mem_cons.mp hw with rfl | hw
    · exact (show ∀ c ∈ cWind, c ≠ 10 by decide) c hc
    · have := gw_ch (h w hw) c hc; omega) 10 hc
  exact this rfl
theorem row_of {n : Nat} (h : n ≤ 99) : rowLn (cRow ++ [32] ++ TL.numL n) [.int (n : Nat)] := by
  have hc := canon_of h
  refine ⟨[TL.numL n], ?_, ?_, by simp, by simp⟩
  · refine TL.spl_join (s := 32) (S := []) (parts := [cRow, TL.numL n]) (by simp) fun p hp hc' => ?_
    simp at hp
    rcases hp with rfl | rfl
    · exact absurd hc' (by decide)
    · have := num_dig hc'; omega
  · have h0 : TL.numL n ≠ [46] := fun z => by
      have := num_dig (n := n) (c := 46) (by rw [z]; simp); omega
    simp [items, wordI, h0, hc.1, hc.2, val_of h]
theorem row_nl {n : Nat} : 10 ∉ cRow ++ [32] ++ TL.numL n := fun hc => by
  simp only [List.mem_append] at hc
  rcases hc with (hc | hc) | hc
  · exact absurd hc (by decide)
  · exact absurd hc (by decide)
  · have := num_dig hc; omega
theorem top_of {n : Nat} (h1 : 1 ≤ n) (h : n ≤ 99) : topOf (sp1 32 (cChart ++ [32] ++ TL.numL n)) = some n := by
  have hc := canon_of h
  have e : sp1 32 (cChart ++ [32] ++ TL.numL n) = [cChart, TL.numL n] := by
    refine TL.spl_join (s := 32) (S := []) (parts := [cChart, TL.numL n]) (by simp) fun p hp hc' => ?_
    simp at hp
    rcases hp with rfl | rfl
    · exact absurd hc' (by decide)
    · have := num_dig hc'; omega
  rw [e]
  have h0 : TL.numL n ≠ [48] := fun z => by
    have := val_of h; rw [z] at this; simp [valL, NumText.digitsVal] at this; omega
  simp [topOf, hc.1, hc.2, h0, val_of h]
theorem top_nl {n : Nat} : 10 ∉ cChart ++ [32] ++ TL.numL n := fun hc => by
  simp only [List.mem_append] at hc
  rcases hc with (hc | hc) | hc
  · exact absurd hc (by decide)
  · exact absurd hc (by decide)
  · have := num_dig hc; omega
theorem dot_ln : rowLn dotL [.non] := ⟨[[46]], by decide +kernel, rfl, by simp, by simp⟩
/-! ### a text that goes on behind the end -/
theorem joinL_last : ∀ (ls : List (List Nat)) (rest : List Nat), TL.joinL [10] (ls ++ [rest]) = flatL ls ++ rest
  | [], rest => by simp [TL.joinL, flatL]
  | [a], rest => by simp [TL.joinL, flatL]
  | a :: b :: ls, rest => by
    have := joinL_last (b :: ls) rest
    simp only [List.cons_append, TL.joinL] at this ⊢
    rw [this]; simp [flatL]
theorem text_parts (t : List Nat) : ∃ ls rest, t = flatL ls ++ rest ∧ (∀ p ∈ ls, 10 ∉ p) ∧ 10 ∉ rest := by
  have hne := sp1_ne 10 t
  have e := last_split (sp1 10 t) hne
  have hn : ∀ p ∈ sp1 10 t, 10 ∉ p := spl_no t [] (by simp)
  refine ⟨(sp1 10 t).dropLast, lastL (sp1 10 t), ?_, fun p hp => hn p (List.dropLast_subset _ hp), hn _ (by rw [e]; simp [lastL])⟩
  rw [← joinL_last, ← e, sp1_join]
section
variable {H I U : List Nat} {n : Nat} {v : Int} {ws : List D}
theorem res_goes (B : Beg H I U n (.int v) ws) {text t : List Nat} (ht : text = (H ++ [10] ++ (I ++ [10]) ++ (U ++ [10])) ++ ([101, 110, 100, 10] ++ t)) : ∃ rows winds, resOf text = .ok rows winds n 4 := by
  obtain ⟨ls, rest, e, h1, h2⟩ := text_parts t
  have := (case_ok B (text := text) (rest := rest) (ls := ls) (a := 1) (b := 1) (by decide) (by decide) (by decide) rfl (by rw [ht, e]; simp [flatL, begL, List.replicate, cEnd]) h1 h2).1
  exact ⟨_, _, this⟩
theorem cases_len (hh : H.length ≤ 60) (hi : I.length ≤ 60) (hu : U.length ≤ 60) : ∀ c ∈ casesL H I U, c.1.length ≤ 1000 := by
  intro c hc
  simp only [casesL, List.mem_cons, List.not_mem_nil, or_false] at hc
  rcases hc with rfl | rfl | rfl | rfl | rfl | rfl | rfl | rfl | rfl | rfl | rfl | rfl | rfl | rfl | rfl | rfl | rfl | rfl | rfl | rfl | rfl | rfl | rfl | rfl | rfl | rfl | rfl | rfl | rfl | rfl | rfl | rfl | rfl | rfl | rfl | rfl | rfl | rfl | rfl | rfl | rfl | rfl | rfl | rfl <;>
    · simp only [List.length_append, List.length_flatten, List.map_replicate, List.sum_replicate_nat, List.length_cons, List.length_nil, List.length_dropLast]; omega
theorem cases_n : (casesL H I U).length = 44 := rfl
end
end K08
/-! The defs of this law keep their promises, over data: the law's turns. -/
namespace K08
open PySem L2 DL HS
open SX (S)
abbrev noT (k : Nat) (why : Str) : D := .tup [.str "no", .str "InvalidText", .int (k : Nat), .str why]
theorem err_text {k : Nat} {why : Str} : errT "InvalidText" (eText k why) (noT k why) := ⟨"InvalidText", [.int (k : Nat), .str why], rfl, by decide +kernel, rfl, rfl, by simp, rfl⟩
theorem ixt0 {x y : D} {M : Mu} {Q : DK} : ixE (.tup [x, y]) (.int 0) M Q = Q x M := rfl
theorem ixt1 {x y : D} {M : Mu} {Q : DK} : ixE (.tup [x, y]) (.int 1) M Q = Q y M := rfl
theorem ixt3 {x y z w : D} {M : Mu} {Q : DK} : ixE (.tup [x, y, z, w]) (.int 3) M Q = Q w M := rfl
theorem gdI {n : Nat} {i : Int} : gd n (.int i) = true := by cases n <;> rfl
theorem add_no {k : Nat} {why : Str} {M : Mu} {Q : DK} (q : Q (noT k why) M) : addD (.tup [.str "no", .str "InvalidText"]) (.tup [.int (k : Nat), .str why]) M Q := ⟨by simp, q⟩
def whys : List Str := ["form", "many", "uneven", "land", "missing"]
theorem why_str {y : Str} (h : y ∈ whys) : PyData.strOk y = true ∧ y.length ≤ 50000 := by
  simp only [whys, List.mem_cons, List.not_mem_nil, or_false] at h
  rcases h with rfl | rfl | rfl | rfl | rfl <;> decide +kernel
theorem gd_noT {k : Nat} {why : Str} (h : why ∈ whys) : gd 5 (noT k why) = true := by
  have h1 : PyData.strOk (Str.ofString "no") = true := by decide +kernel
  have h2 : PyData.strOk (Str.ofString "InvalidText") = true := by decide +kernel
  have h3 : (Str.ofString "no").length ≤ 50000 := by decide +kernel
  have h4 : (Str.ofString "InvalidText").length ≤ 50000 := by decide +kernel
  have h5 := why_str h
  simp [gd, h1, h2, h3, h4, h5.1, h5.2]
theorem len_S {l : List Nat} {M : Mu} {Q : DK} (h : l.length ≤ 100000) : lenD [.str (S l)] M Q = Q (.int l.length) M := by simp [lenD, S_len, h]
theorem addS {a b : List Nat} {M : Mu} {Q : DK} (h : a.length + b.length ≤ 100000) (q : Q (.str (S (a ++ b))) M) : addD (.str (S a)) (.str (S b)) M Q := ⟨by rw [S_len, S_len]; exact h, by rw [S_app]; exact q⟩
theorem cut_take (l : List Nat) (k : Nat) : cut l none (some (k : Int)) = l.take k := by
  unfold cut
  rw [HT.sIx_none]
  simp [HT.sIx]
  rw [if_neg (by omega)]
  omega
theorem addI {x y : Int} {M : Mu} {Q : DK} : addD (.int x) (.int y) M Q = Q (.int (x + y)) M := rfl
theorem cut_pre {l A : List Nat} : l.take A.length = A ↔ ∃ t, l = A ++ t := by
  constructor
  · intro h; exact ⟨l.drop A.length, by conv => lhs; rw [← List.take_append_drop A.length l, h]⟩
  · rintro ⟨t, rfl⟩; simp
theorem S_endn : Str.ofString "end\n" = S [101, 110, 100, 10] := by decide +kernel
theorem sp1_n {l : List Nat} (h : l.length ≤ 10000) : (sp1 10 l).length ≤ 16000 := by
  have := (spl_all (c := 10) l []).2.1
  unfold sp1; omega
section
variable {ns : List Int} {b : Addr} {h i g : List Nat} {M : Mu} {Z : DEnds} {o4 o6 o7 o8 o9 o10 o11 o12 o13 : Option D}
abbrev env (ns : List Int) (b : Addr) (h i g : List Nat) (o4 o6 o7 o8 o9 o10 o11 o12 o13 : Option D) : DEnv := [some (.scr ns), some (.ref b), some (.str (S i)), some (.str (S g)), o4, some (.str (S h)), o6, o7, o8, o9, o10, o11, o12, o13]
theorem law_4 {l : List Nat} {k : Nat} {why : Str} {β : Bool} (hl : l.length ≤ 1000) (hw : why ∈ whys) (hd : (β = true ∧ ∃ rows winds n, resOf l = .ok rows winds n 4) ∨ (β = false ∧ resOf l = .err k why)) (q : ∀ o10, Z.nx (env ns b h i g o4 o6 (some (.str (S l))) (some (.tup [.int (k : Nat), .str why])) (some (.bl β)) o10 o11 o12 o13) M) :
    t_law_4 xnames Z (env ns b h i g o4 o6 (some (.str (S l))) (some (.tup [.int (k : Nat), .str why])) (some (.bl β)) o10 o11 o12 o13) M := by
  simp only [t_law_4, dSeq, dAsg]
  unfold dLam
  intro E0 Q0 hE hQ
  simp only [dFz, dCall, dCons, dNil, dVar, List.getElem?_cons_succ, List.getElem?_cons_zero]
  refine .inl ⟨l, rfl, by omega, sp1_n (by omega), fun k' why' z => ?_, fun rows winds top many z R W refs M' hp => ?_⟩
  · rcases hd with ⟨-, rows, winds, n, e⟩ | ⟨rfl, e⟩
    · rw [e] at z; cases z
    · rw [e] at z; cases z
      refine hE _ _ _ _ (by decide +kernel) err_text ?_
      simp only [gNm, List.set_cons_succ, List.set_cons_zero]
      simp only [t_law_3, dIfS, dOr, dAnd, dNot, dB, dOp, dTup, dCall, dCons, dNil, dVar, dC, List.getElem?_cons_succ, List.getElem?_cons_zero, isB, Bool.false_eq_true, if_false, Bool.not_false, if_true]
      refine ⟨by simp, add_no ?_⟩
      refine same_t (gd_le (gd_noT hw) (by decide)) (gd_le (gd_noT hw) (by decide)) rfl ?_
      simp only [isB, Bool.not_true, Bool.false_eq_true, if_false, dNext]
      exact q _
  · rcases hd with ⟨rfl, rows', winds', n, e⟩ | ⟨-, e⟩
    · rw [e] at z; cases z
      refine fz_new (M0 := M) hp.ex ?_
      rw [rs_tup]
      simp only [List.map_cons, List.map_nil, rs_int]
      refine hQ _ _ ?_
      simp only [gNm, List.set_cons_succ, List.set_cons_zero]
      simp only [t_law_3, dIfS, dOr, dAnd, dNot, dB, dOp, dTup, dCall, dCons, dNil, dVar, dC, List.getElem?_cons_succ, List.getElem?_cons_zero, isB, Bool.false_eq_true, if_false, Bool.not_true, if_true, ixt1, ixt3]
      refine same_t gdI gdI rfl ?_
      simp only [isB, Bool.not_true, Bool.false_eq_true, if_false, dNext]
      exact q _
    · rw [e] at z; cases z
theorem law_7 {cs : List (List Nat × Nat × Str)} {c : List Nat × Nat × Str} {j : Nat} (hh : h.length ≤ 60) (hi : i.length ≤ 60) (hg : g.length ≤ 60) (hj : cs[j]? = some c) (hl : c.1.length ≤ 1000) (hw : c.2.2 ∈ whys)
    (hr : readOf c.1 = .err c.2.1 c.2.2) (hd : ((∃ t, c.1 = (h ++ i ++ g) ++ ([101, 110, 100, 10] ++ t)) ∧ ∃ rows winds n, resOf c.1 = .ok rows winds n 4) ∨ ((¬ ∃ t, c.1 = (h ++ i ++ g) ++ ([101, 110, 100, 10] ++ t)) ∧ resOf c.1 = .err c.2.1 c.2.2))
    (q : ∀ o7 o8 o9 o10, Z.nx (env ns b h i g (some (.int (j : Nat))) (some (.lst 0 (cs.map caseD))) o7 o8 o9 o10 o11 o12 o13) M) :
    t_law_7 xnames Z (env ns b h i g (some (.int (j : Nat))) (some (.lst 0 (cs.map caseD))) o7 o8 o9 o10 o11 o12 o13) M := by
  obtain ⟨l, k, why⟩ := c
  simp only at hl hw hr hd
  simp only [t_law_7, dSeq, dAsg, dOp, dVar, List.getElem?_cons_succ, List.getElem?_cons_zero]
  refine ix_seq (r := caseD (l, k, why)) rfl (by rw [List.getElem?_map, hj]; rfl) ?_
  refine ⟨rfl, ?_⟩
  simp only [gsCons, gNm, gsNil, List.set_cons_succ, List.set_cons_zero]
  simp only [t_law_6, dSeq, dIfS, dNot, dB, dCall, dCons, dNil]
  unfold dLam
  intro E0 Q0 hE hQ
  unfold y_law_3
  simp only [dStat, dCons, dNil, dVar, List.getElem?_cons_succ, List.getElem?_cons_zero, List.cons_append, List.nil_append]
  refine ⟨rfl, rfl, .inl ⟨l, rfl, by omega, sp1_n (by omega), fun k' why' z => ?_, fun rows winds top many z kvs => ?_⟩⟩
  rotate_left
  · rw [hr] at z; cases z
  rw [hr] at z; cases z
  refine hE _ _ _ _ (by decide +kernel) err_text ?_
  simp only [dOp, dTup, dCons, dNil, dC, dVar, List.getElem?_cons_succ, List.getElem?_cons_zero]
  refine ⟨by simp, add_no ?_⟩
  refine same_t (gd_le (gd_noT hw) (by decide)) (gd_le (gd_noT hw) (by decide)) rfl ?_
  simp only [isB, Bool.not_true, Bool.false_eq_true, if_false, dNext]
  simp only [t_law_5, dSeq, dAsg, dOp, dSl, dNoPart, dPart, dCB, dCons, dNil, dVar, dC, List.getElem?_cons_succ, List.getElem?_cons_zero]
  refine addS (by omega) (addS (by simp; omega) ?_)
  rw [len_S (by simp; omega)]
  simp only [addI, slD]
  refine ⟨by rw [S_len]; omega, addS (by omega) (addS (by simp; omega) ?_)⟩
  rw [S_endn]
  refine addS (by simp; omega) ?_
  rw [cutS_S, show (((h ++ i ++ g).length : Int) + 4) = (((h ++ i ++ g ++ [101, 110, 100, 10]).length : Nat) : Int) by simp; omega, cut_take, eqD_S]
  simp only [gNm, List.set_cons_succ, List.set_cons_zero]
  refine law_4 hl hw ?_ fun o10 => q _ _ _ _
  have hp : (l.take (h ++ i ++ g ++ [101, 110, 100, 10]).length = h ++ i ++ g ++ [101, 110, 100, 10]) ↔ ∃ t, l = (h ++ i ++ g) ++ ([101, 110, 100, 10] ++ t) := by
    rw [cut_pre]; simp only [List.append_assoc]
  rcases hd with ⟨e, f⟩ | ⟨e, f⟩
  · exact .inl ⟨decide_eq_true (hp.mpr e), f⟩
  · exact .inr ⟨decide_eq_false fun z => e (hp.mp z), f⟩
end
end K08
/-! The defs of this law keep their promises, over data: the law. -/
namespace K08
open PySem L2 DL HS
open SX (S)
def nos : D := .lst 0 [noT 0 "form", noT 0 "form"]
theorem mul_no {M : Mu} {Q : DK} (q : Q nos M) : mulE (.lst 0 [.tup [.str "no", .str "InvalidText", .int 0, .str "form"]]) (.int 2) M Q := by
  refine ⟨by decide, by decide, by simp, ?_⟩
  exact q
theorem gd_nos : gd 6 nos = true := by
  have h := gd_noT (k := 0) (why := "form") (by decide +kernel)
  have h5 : gd (5 + 1) (.lst 0 [noT 0 "form", noT 0 "form"]) = true := by
    unfold gd
    simp [h]
  exact h5
/-- the two asks of what is no text of a chart -/
theorem no_read {l : List Nat} {M : Mu} {E0 : DXK} {Q0 : DK} {Q : DK} (hl : l.length ≤ 1000) (hr : readOf l = .err 0 "form") (hE : ∀ n fs M' d, n ∈ xnames → errT n fs d → Q d M' → E0 n fs M') (q : Q (noT 0 "form") M) : sp_Chart_read [.str (S l)] M Q0 E0 := by
  refine .inl ⟨l, rfl, by omega, sp1_n (by omega), fun k' why' z => ?_, fun rows winds top many z kvs => ?_⟩
  · rw [hr] at z; cases z
    exact hE _ _ _ _ (by decide +kernel) err_text q
  · rw [hr] at z; cases z
theorem no_parts {l : List Nat} {M : Mu} {E0 : DXK} {Q0 : DK} {Q : DK} (hl : l.length ≤ 1000) (hr : resOf l = .err 0 "form") (hE : ∀ n fs M' d, n ∈ xnames → errT n fs d → Q d M' → E0 n fs M') (q : Q (noT 0 "form") M) : sp_read_parts [.str (S l)] M Q0 E0 := by
  refine .inl ⟨l, rfl, by omega, sp1_n (by omega), fun k' why' z => ?_, fun rows winds top many z => ?_⟩
  · rw [hr] at z; cases z
    exact hE _ _ _ _ (by decide +kernel) err_text q
  · rw [hr] at z; cases z
section
variable {ns : List Int} {b : Addr} {h i g : List Nat} {M : Mu} {Z : DEnds} {o4 o6 o7 o8 o9 o10 o11 o12 o13 : Option D}
theorem law_8 {l : List Nat} {fs : List Addr} (hf : fs.length = 2) (hi : i.length ≤ 60) (hl : l.length ≤ 60) (hr : resOf (l ++ i ++ [101, 110, 100, 10]) = .err 0 "form")
    (q : Z.nx (env ns b h i g o4 o6 o7 o8 o9 o10 (some (.str (S l))) (some (.lst 0 (fs.map D.ref))) o13) M) :
    t_law_8 xnames fs Z (env ns b h i g o4 o6 o7 o8 o9 o10 (some (.str (S l))) (some (.lst 0 (fs.map D.ref))) o13) M := by
  have hL : (l ++ i ++ [101, 110, 100, 10]).length ≤ 1000 := by simp; omega
  simp only [t_law_8, dIfS, dNot, dB, dCall, dCons, dNil, dTries, dVar, List.getElem?_cons_succ, List.getElem?_cons_zero]
  refine ⟨0, rfl, by simp, ?_⟩
  simp only [List.map_cons, List.map_nil, triesR, List.nil_append, List.cons_append]
  intro E0 Q0 hE hQ
  unfold y_law_4
  simp only [dStat, dOp, dCons, dNil, dVar, dC, List.getElem?_cons_succ, List.getElem?_cons_zero]
  refine addS (by omega) ?_
  rw [S_endn]
  refine addS (by simp; omega) ⟨rfl, rfl, no_read hL (read_err hr) hE ?_⟩
  intro E0 Q0 hE hQ
  unfold y_law_5
  simp only [dFz, dCallK0, dOp, dCons, dNil, dVar, dC, List.getElem?_cons_succ, List.getElem?_cons_zero]
  refine addS (by omega) ?_
  rw [S_endn]
  refine addS (by simp; omega) ⟨rfl, no_parts hL hr hE ?_⟩
  simp only [dOp, dLst, dTup, dCons, dNil, dC]
  refine ⟨by simp, by simp, mul_no ?_⟩
  refine same_t gd_nos gd_nos rfl ?_
  simp only [isB, Bool.not_true, Bool.false_eq_true, if_false, dNext]
  exact q
theorem not_read {v : D} {M : Mu} {E0 : DXK} {Q0 : DK} {Q : DK} (hv : notStr v) (hE : ∀ n fs M' d, n ∈ xnames → errT n fs d → Q d M' → E0 n fs M') (q : Q (noT 0 "form") M) : sp_Chart_read [v] M Q0 E0 := .inr ⟨v, rfl, hv, hE _ _ _ _ (by decide +kernel) err_text q⟩
theorem not_parts {v : D} {M : Mu} {E0 : DXK} {Q0 : DK} {Q : DK} (hv : notStr v) (hE : ∀ n fs M' d, n ∈ xnames → errT n fs d → Q d M' → E0 n fs M') (q : Q (noT 0 "form") M) : sp_read_parts [v] M Q0 E0 := .inr ⟨v, rfl, hv, hE _ _ _ _ (by decide +kernel) err_text q⟩
theorem law_2 {v : D} {fs : List Addr} (hf : fs.length = 2) (hv : notStr v)
    (q : t_law_1 xnames fs Z (env ns b h i g o4 o6 o7 o8 o9 o10 o11 (some (.lst 0 (fs.map D.ref))) (some v)) M) :
    t_law_2 xnames fs Z (env ns b h i g o4 o6 o7 o8 o9 o10 o11 (some (.lst 0 (fs.map D.ref))) (some v)) M := by
  simp only [t_law_2, dSeq, dIfS, dNot, dB, dCall, dCons, dNil, dTries, dVar, List.getElem?_cons_succ, List.getElem?_cons_zero]
  refine ⟨0, rfl, by simp, ?_⟩
  simp only [List.map_cons, List.map_nil, triesR, List.nil_append, List.cons_append]
  intro E0 Q0 hE hQ
  unfold y_law_1
  simp only [dStat, dCons, dNil, dVar, List.getElem?_cons_succ, List.getElem?_cons_zero]
  refine ⟨rfl, rfl, not_read hv hE ?_⟩
  intro E0 Q0 hE hQ
  unfold y_law_2
  simp only [dFz, dCall, dCons, dNil, dVar, List.getElem?_cons_succ, List.getElem?_cons_zero]
  refine not_parts hv hE ?_
  simp only [dOp, dLst, dTup, dCons, dNil, dC]
  refine ⟨by simp, by simp, mul_no ?_⟩
  refine same_t gd_nos gd_nos rfl ?_
  simp only [isB, Bool.not_true, Bool.false_eq_true, if_false, dNext]
  exact q
theorem mulS {a : List Nat} {n : Nat} {M : Mu} {Q : DK} (h : a.length ≤ 100) (hn : n ≤ 1000) (q : Q (.str (S (List.replicate n a).flatten)) M) : mulE (.str (S a)) (.int (n : Int)) M Q := by
  refine ⟨by omega, by omega, by rw [S_len]; exact h, ?_⟩
  rw [Int.toNat_natCast, repS_S]; exact q
theorem last_ask {l : List Nat} {rows winds : List (List D)} {top many : Nat} {M : Mu} {Q : DK} (hl : l.length ≤ 1000) (hr : readOf l = .ok rows winds top many) (q : Q (.int winds.length) M) :
    sp_Chart_read [.str (S l)] M (fun x M1 => match insF "Chart" x M1 with
      | some fs => (match fs.lookup ("last" : Str) with | some d => Q d M1 | none => False)
      | none => False) DX0 := by
  refine .inl ⟨l, rfl, by omega, sp1_n (by omega), fun k' why' z => ?_, fun rows winds top many z kvs => ?_⟩
  · rw [hr] at z; cases z
  · rw [hr] at z; cases z
    rw [chart_ins]
    exact q
end
section
variable {H I U : List Nat} {n : Nat} {v : Int} {ws : List D}
theorem whole {a b : Nat} (B : Beg H I U n (.int v) ws) {text : List Nat} (ha : a ≤ 6) (hb : b ≤ 8) (h0 : 0 < a) (ht : text = flatL (begL H I U a b ++ [cEnd])) : readOf text = .ok (List.replicate a [.int v]) (List.replicate b ws) n (2 + a + b) := by
  have q := case_ok B (text := text) (rest := []) (ls := []) (a := a) (b := b) ha hb h0 rfl (by rw [ht]; simp) (by simp) (by simp)
  simp only [readOf, q.1]
  rw [if_pos]
  rw [q.2]
  refine ⟨by simp [begL]; omega, ?_⟩
  simp only [lastL, List.getLastD_concat]
theorem heads_no : ∀ l ∈ headsL, topOf (sp1 32 l) = none ∧ 10 ∉ l ∧ l.length ≤ 20 := by
  intro l hl
  simp only [headsL, List.mem_cons, List.not_mem_nil, or_false] at hl
  rcases hl with rfl | rfl | rfl | rfl | rfl | rfl | rfl | rfl | rfl | rfl | rfl | rfl | rfl | rfl | rfl | rfl | rfl <;> exact ⟨by decide +kernel, by decide, by decide⟩
end
theorem pick_word {b : Addr} {M : Mu} {Q : DK} (hb : M b = some .bag) (q : ∀ w, gw w → Q (.str (S w)) M) {ρ : DEnv} (hρ : ρ[1]? = some (some (.ref b))) :
    dCall sp__law_pick DX0 (dCons (dVar 1) (dCons (dLst (dCons (dC (.str "-")) (dCons (dC (.str "0")) (dCons (dC (.str "99")) (dCons (dCB strE (dCons (dCall sp__law_draw DX0 (dCons (dVar 1) (dCons (dC (.int 100)) dNil))) dNil)) dNil))))) dNil)) ρ M Q := by
  simp only [dCall, dLst, dCB, dCons, dNil, dVar, dC, hρ]
  refine draw_i hb (by decide) (by decide) fun n n0 n1 => ⟨log_ok n0 (by omega), by simp, ?_⟩
  refine pick_l hb (by simp) (by simp) fun x hx => ?_
  rw [show (Str.ofString (toString n)) = S (TL.numL n.toNat) from itS_num n n0] at hx
  simp only [List.mem_cons, List.not_mem_nil, or_false] at hx
  rcases hx with rfl | rfl | rfl | rfl
  · have := q [45] (.inl rfl); rw [show S [45] = Str.ofString "-" by decide +kernel] at this; exact this
  · have := q [48] (.inr ⟨by decide, by decide⟩); rw [show S [48] = Str.ofString "0" by decide +kernel] at this; exact this
  · have := q [57, 57] (.inr ⟨by decide, by decide⟩); rw [show S [57, 57] = Str.ofString "99" by decide +kernel] at this; exact this
  · have := canon_of (n := n.toNat) (by omega)
    exact q _ (.inr this)
theorem words_ex : ∀ {ds : List D}, (∀ d ∈ ds, ∃ w, gw w ∧ d = .str (S w)) → ∃ ws : List (List Nat), ds = ws.map (fun w => D.str (S w)) ∧ ∀ w ∈ ws, gw w
  | [], _ => ⟨[], rfl, by simp⟩
  | d :: ds, h => by
    obtain ⟨w, hw, rfl⟩ := h d List.mem_cons_self
    obtain ⟨ws, rfl, hh⟩ := words_ex fun x hx => h x (List.mem_cons_of_mem _ hx)
    exact ⟨w :: ws, rfl, fun x hx => by rcases List.mem_cons.mp hx with rfl | hx; exact hw; exact hh x hx⟩
end K08
/-! The defs of this law keep their promises, over data: the law, put together. -/
namespace K08
open PySem L2 DL HS
open SX (S)
section
variable {ns : List Int} {b : Addr} {H I U : List Nat} {n : Nat} {v : Int} {ws : List D} {M : Mu} {Q : DK} {o4 o7 o8 o9 o10 o11 o12 o13 : Option D}
abbrev envB (ns : List Int) (b : Addr) (H I U : List Nat) (o4 o6 o7 o8 o9 o10 o11 o12 o13 : Option D) : DEnv := env ns b (H ++ [10]) (I ++ [10]) (U ++ [10]) o4 o6 o7 o8 o9 o10 o11 o12 o13
theorem law_1 {fs : List Addr} {o6 : Option D} (B : Beg H I U n (.int v) ws) (hh : H.length ≤ 50) (hi : I.length ≤ 50) (hu : U.length ≤ 50) (q : Q (.bl true) M) :
    t_law_1 xnames fs { nx := fun _ M' => Q .non M', rt := Q } (envB ns b H I U o4 o6 o7 o8 o9 o10 o11 o12 o13) M := by
  simp only [t_law_1, dRet, dAndV, dOp, dFld, dStat, dCons, dNil, dVar, dC, List.getElem?_cons_succ, List.getElem?_cons_zero]
  refine addS (by simp; omega) (mulS (n := 8) (by simp; omega) (by decide) (addS (by simp; omega) ?_))
  rw [S_endn]
  refine addS (by simp; omega) ⟨rfl, rfl, ?_⟩
  refine last_ask (by simp; omega) (whole B (a := 1) (b := 8) (by decide) (by decide) (by decide) (by simp [flatL, begL, List.replicate, cEnd])) ?_
  rw [eqI, List.length_replicate]
  simp only [Int.cast_ofNat_Int, decide_true, if_true]
  refine mulS (n := 6) (by simp; omega) (by decide) (addS (by simp; omega) ?_)
  refine addS (by simp; omega) ⟨rfl, rfl, ?_⟩
  refine last_ask (by simp; omega) (whole B (a := 6) (b := 0) (by decide) (by decide) (by decide) (by simp [flatL, begL, List.replicate, cEnd])) ?_
  rw [eqI]
  exact q
theorem law_9 {o6 : Option D} (B : Beg H I U n (.int v) ws) (hh : H.length ≤ 50) (hi : I.length ≤ 50) (hu : U.length ≤ 50) (hb : M b = some .bag) (q : Q (.bl true) M) :
    t_law_9 xnames { nx := fun _ M' => Q .non M', rt := Q } (envB ns b H I U o4 o6 o7 o8 o9 o10 o11 o12 o13) M := by
  simp only [t_law_9, dSeq, dAsg, dCall, dLst, dTup, dCons, dNil, dVar, dC, List.getElem?_cons_succ, List.getElem?_cons_zero]
  refine ⟨by simp, by simp, by simp, by simp, pick_l hb (by simp) (by simp) fun x hx => ?_⟩
  simp only [gNm, List.set_cons_succ, List.set_cons_zero, dAsks]
  intro fs hf
  refine law_2 hf ?_ (law_1 B hh hi hu q)
  simp only [List.mem_cons, List.not_mem_nil, or_false] at hx
  unfold notStr
  rcases hx with rfl | rfl | rfl | rfl | rfl | rfl | rfl
  · exact .inl rfl
  · exact .inr (.inr (.inl ⟨_, rfl⟩))
  · exact .inr (.inl ⟨_, rfl⟩)
  · exact .inr (.inr (.inr (.inl ⟨_, _, rfl⟩)))
  · exact .inr (.inr (.inr (.inr ⟨_, rfl⟩)))
  · exact .inr (.inr (.inr (.inl ⟨_, _, rfl⟩)))
  · exact .inr (.inr (.inl ⟨_, rfl⟩))
theorem law_10 {o6 : Option D} (B : Beg H I U n (.int v) ws) (hh : H.length ≤ 50) (hi : I.length ≤ 50) (hu : U.length ≤ 50) (hb : M b = some .bag) (q : Q (.bl true) M) :
    t_law_10 xnames { nx := fun _ M' => Q .non M', rt := Q } (envB ns b H I U o4 o6 o7 o8 o9 o10 o11 o12 o13) M := by
  simp only [t_law_10, dSeq, dFor, dIt, dCall, dNil]
  refine ⟨rfl, ?_⟩
  refine fori_inv (P := fun ρ M' => M' = M ∧ ∃ o11 o12, ρ = envB ns b H I U o4 o6 o7 o8 o9 o10 o11 o12 o13) ?_ ⟨rfl, _, _, rfl⟩ ?_
  · rintro x hx _ M1 ⟨rfl, o11, o12, rfl⟩ nx hnx
    simp only [txs, List.mem_map] at hx
    obtain ⟨_, ⟨l, hl, rfl⟩, rfl⟩ := hx
    simp only [gNm, List.set_cons_succ, List.set_cons_zero, dAsks]
    intro fs hf
    obtain ⟨h1, h2, h3⟩ := heads_no l hl
    refine law_8 hf (by simp; omega) (by simp; omega) ?_ (hnx _ _ ⟨rfl, _, _, rfl⟩)
    exact case_no (l := l) (ls := [I, cEnd]) (rest := []) (by simp [flatL, cEnd]) h2 (by
      intro p hp
      simp at hp
      rcases hp with rfl | rfl
      · exact B.nj
      · decide) (by simp) h1
  · rintro _ M1 ⟨rfl, o11, o12, rfl⟩
    exact law_9 B hh hi hu hb q
theorem law_12 {o6 : Option D} (B : Beg H I U n (.int v) ws) (L : Beg H dotL U n .non ws) (hh : H.length ≤ 50) (hi : I.length ≤ 50) (hu : U.length ≤ 50) (hb : M b = some .bag) (q : Q (.bl true) M) :
    t_law_12 xnames { nx := fun _ M' => Q .non M', rt := Q } (envB ns b H I U o4 o6 o7 o8 o9 o10 o11 o12 o13) M := by
  have hc := cases_ok B L
  have hl := cases_len (H := H ++ [10]) (I := I ++ [10]) (U := U ++ [10]) (by simp; omega) (by simp; omega) (by simp; omega)
  simp only [t_law_12, dSeq, dAsg, dCall, dCons, dNil, dVar, List.getElem?_cons_succ, List.getElem?_cons_zero]
  refine ⟨_, _, _, rfl, by simp, by simp, by simp; omega, by simp; omega, by simp; omega, ?_⟩
  have hw : ∀ c ∈ casesL (H ++ [10]) (I ++ [10]) (U ++ [10]), c.2.2 ∈ whys := by
    have : ∀ y ∈ (casesL (H ++ [10]) (I ++ [10]) (U ++ [10])).map (fun c => c.2.2), y ∈ whys := by
      rw [show (casesL (H ++ [10]) (I ++ [10]) (U ++ [10])).map (fun c => c.2.2) = (casesL [] [] []).map (fun c => c.2.2) from rfl]
      decide +kernel
    exact fun c h => this _ (List.mem_map.mpr ⟨c, h, rfl⟩)
  have hn : (casesL (H ++ [10]) (I ++ [10]) (U ++ [10])).length = 44 := cases_n
  generalize casesL (H ++ [10]) (I ++ [10]) (U ++ [10]) = cs at hc hl hw hn
  simp only [gNm, List.set_cons_succ, List.set_cons_zero]
  simp only [t_law_11, dSeq, dFor, dRng1, dCB, dCons, dNil, dVar, List.getElem?_cons_succ, List.getElem?_cons_zero]
  have e : lenD [.lst 0 (cs.map caseD)] M = fun Q => Q (.int ((44 : Nat) : Int)) M := by funext Q; simp [lenD, hn]
  rw [e]
  refine ⟨by decide, ?_⟩
  refine fori_inv (P := fun ρ M' => M' = M ∧ ∃ o4 o7 o8 o9 o10, ρ = envB ns b H I U o4 (some (.lst 0 (cs.map caseD))) o7 o8 o9 o10 o11 o12 o13) ?_ ⟨rfl, _, _, _, _, _, rfl⟩ ?_
  · rintro x hx _ M1 ⟨rfl, o4, o7, o8, o9, o10, rfl⟩ nx hnx
    obtain ⟨j, hj, rfl⟩ := rng_mem hx
    simp only [gNm, List.set_cons_succ, List.set_cons_zero]
    have hj' : j < cs.length := by rw [hn]; exact hj
    have hm : cs[j] ∈ cs := List.getElem_mem hj'
    obtain ⟨r1, r2⟩ := hc _ hm
    refine law_7 (c := cs[j]) (by simp; omega) (by simp; omega) (by simp; omega) (List.getElem?_eq_getElem hj') (hl _ hm) (hw _ hm) r1 ?_ fun o7 o8 o9 o10 => hnx _ _ ⟨rfl, _, _, _, _, _, rfl⟩
    rcases r2 with ⟨t, e, rows, winds, f⟩ | f
    · exact .inl ⟨⟨t, e⟩, rows, winds, n, f⟩
    · refine .inr ⟨fun ⟨t, e⟩ => ?_, f⟩
      obtain ⟨rows, winds, g⟩ := res_goes B e
      rw [f] at g; cases g
  · rintro _ M1 ⟨rfl, o4, o7, o8, o9, o10, rfl⟩
    exact law_10 B hh hi hu hb q
end
theorem S_row_ : Str.ofString "row " = S (cRow ++ [32]) := by decide +kernel
theorem S_chart_ : Str.ofString "chart " = S (cChart ++ [32]) := by decide +kernel
theorem S_nl_ : Str.ofString "\n" = S [10] := by decide +kernel
theorem pure_law : ∀ ds M Q E, sp_law ds M Q E → ds.length = (["_law_script"] : List Str).length ∧ t_law xnames { nx := fun _ M' => Q .non M', rt := Q } (startD ["_law_script", "_law_bag_here", "_law_item", "_law_gust", "_law_k", "_law_head", "_law_some", "_law_text_z", "_law_due", "_law_behind", "_law_told", "_law_one", "_law_asks", "_law_odd"] ds) M := by
  rintro ds M Q E ⟨ns, rfl, hl, rfl, q⟩
  refine ⟨rfl, ?_⟩
  simp [t_law]
  refine bag_i hl fun b hb0 => ?_
  have hb : setM (fun _ => none) b .bag b = some .bag := setM_same
  generalize setM (fun _ => none) b .bag = M1 at hb
  simp only [t_law_15, dSeq, dAsg, dOp, dCB, dCall, dCons, dNil, dC, dVar, startD, List.map_cons, List.map_nil, List.set_cons_succ, List.set_cons_zero, List.getElem?_cons_succ, List.getElem?_cons_zero]
  refine draw_i hb (by decide) (by decide) fun i i0 i1 => ⟨log_ok i0 (by omega), ?_⟩
  have ci := canon_of (n := i.toNat) (by omega)
  rw [show (Str.ofString (toString i)) = S (TL.numL i.toNat) from itS_num i i0, S_row_, S_nl_]
  refine addS (by simp [cRow]; omega) (addS (by simp [cRow]; omega) ?_)
  simp only [gNm, List.set_cons_succ, List.set_cons_zero]
  simp only [t_law_14, dSeq, dAsg, dOp, dM1, dLst, dLc, dRng1, dCons, dNil, dC]
  refine ⟨by simp, by decide, ?_⟩
  refine compi_any (P := fun d => ∃ w, gw w ∧ d = .str (S w)) _ _ _ (fun x hx Q' hQ => ?_) (by rw [rng_len]; decide) fun ds hds hP => ?_
  · simp only [gNm]
    exact pick_word hb (fun w hw => hQ _ ⟨w, hw, rfl⟩) rfl
  obtain ⟨words, rfl, hw⟩ := words_ex hP
  simp only [List.length_map, rng_len] at hds
  have hds : words.length = 5 := hds
  refine ⟨by simp [hds], ?_⟩
  obtain ⟨xs, hU⟩ := wind_of hds hw
  have hUn := wind_nl hw
  have e1 : ([D.str "wind"] ++ ([] ++ words.map fun w => D.str (S w))) = ((cWind :: words).map S).map D.str := by
    simp; decide +kernel
  have hlen : ∀ w ∈ words, w.length ≤ 2 := fun w h => gw_len (hw w h)
  have hUl : (TL.joinL [32] (cWind :: words)).length ≤ 40 := by
    have h1 := joinL_len [32] (cWind :: words)
    have h2 := sum_le (words.map List.length) 2 (by intro x hx; obtain ⟨w, h, rfl⟩ := List.mem_map.mp hx; exact hlen w h)
    have hc : cWind.length = 4 := rfl
    simp only [List.map_cons, List.sum_cons, List.length_cons, List.length_nil, List.length_map, hds, hc] at h1 h2
    omega
  rw [e1]
  simp only [joinD]
  refine ⟨(cWind :: words).map S, rfl, ?_, ?_⟩
  · have h2 := sum_le (words.map List.length) 2 (by intro x hx; obtain ⟨w, h, rfl⟩ := List.mem_map.mp hx; exact hlen w h)
    rw [lens_S]
    have e0 : (Str.ofString " ").length = 1 := by decide +kernel
    rw [e0]
    simp [hds, cWind] at h2 ⊢
    omega
  rw [join_sp, S_nl_]
  generalize TL.joinL [32] (cWind :: words) = U at hU hUn hUl
  refine addS (by simp; omega) ?_
  simp only [gNm, List.set_cons_succ, List.set_cons_zero]
  simp only [t_law_13, dSeq, dAsg, dOp, dCB, dCall, dCons, dNil, dC, dVar, List.getElem?_cons_succ, List.getElem?_cons_zero]
  refine draw_i hb (by decide) (by decide) fun t t0 t1 => ?_
  rw [addI]
  refine ⟨log_ok (by omega) (by omega), ?_⟩
  rw [show (Str.ofString (toString (1 + t))) = S (TL.numL (1 + t).toNat) from itS_num _ (by omega), S_chart_, S_nl_]
  have ct := canon_of (n := (1 + t).toNat) (by omega)
  refine addS (by simp [cChart]; omega) (addS (by simp [cChart]; omega) ?_)
  simp only [gNm, List.set_cons_succ, List.set_cons_zero]
  have hI := row_of (n := i.toNat) (by omega)
  have hIn := row_nl (n := i.toNat)
  have hH := top_of (n := (1 + t).toNat) (by omega) (by omega)
  have hHn := top_nl (n := (1 + t).toNat)
  have hIl : (cRow ++ [32] ++ TL.numL i.toNat).length ≤ 50 := by simp [cRow]; omega
  have hHl : (cChart ++ [32] ++ TL.numL (1 + t).toNat).length ≤ 50 := by simp [cChart]; omega
  generalize cRow ++ [32] ++ TL.numL i.toNat = I at hI hIn hIl
  generalize cChart ++ [32] ++ TL.numL (1 + t).toNat = H at hH hHn hHl
  exact law_12 (n := (1 + t).toNat) (v := (i.toNat : Nat)) (ws := xs) ⟨hH, hI, hU, hHn, hIn, hUn⟩ ⟨hH, dot_ln, hU, hHn, by decide, hUn⟩ hHl hIl (by omega) hb (q M1)
end K08

/-! Each def keeps its promise: the walks. Printed by a program of mine. -/
namespace K08
open PySem L2 DL LamX HS
section
variable {P : Program} {w : World} {K : PySem.W.Frag} {mg : Str → Option Value} {base : Heap} {cl : Str → Addr} {tb : List (Addr × Str)}
theorem dv_is_number (G : Gb P w K mg base cl) {f : Addr} (cdv : Value) (A : Around) (outer : List Env) (sh : Shared) (H : Hp) (E0 : XK) (c : Wd) (hcc : Cc cl tb c) (hr : Room 0 (A.deeper (PyProof.Rows.envOfC "is_number" (defScope s_is_number) sh.heap.objs.size f cdv))) :
    PDSs c (cxOf (L2N.CX P w) P w K mg base ["value", "least", "most"] "is_number" (defScope s_is_number) f cdv A outer sh H E0) (defBody s_is_number) (t_is_number) :=
    (pdss_one (pds_ret (pd_and (pd_callB isi_D rfl G.b_isinstance (by decide +kernel) (pda_cons (pd_var 0) (pda_cons (pd_ty G.b_int (by decide +kernel)) pda_nil))) (pd_and (pd_not (pd_callB isi_D rfl G.b_isinstance (by decide +kernel) (pda_cons (pd_var 0) (pda_cons (pd_ty G.b_bool (by decide +kernel)) pda_nil)))) (pd_one (pd_chain opD_le opD_le (pd_var 1) (pd_var 0) (pd_var 2)))))))
theorem ok_is_number (G : Gb P w K mg base cl) {dvs : List V} {kws : List (Str × V)} {f : Addr} {fd : FuncData} (F : FunD K "is_number" "is_number" (defArgs s_is_number) (defBody s_is_number) (defScope s_is_number) dvs kws f fd) : FnOk P w K mg base (L2N.CX P w) 1 f fd ["value", "least", "most"] (upX K cl tb sp_is_number) :=
  fnX F sc_is_number (t := fun _ => t_is_number) (fun cdv A outer sh H E0 c E hcc hr tk => dv_is_number G cdv A outer sh H E0 c hcc hr) pure_is_number
theorem dv_number_in (G : Gb P w K mg base cl) {f : Addr} (cdv : Value) (A : Around) (outer : List Env) (sh : Shared) (H : Hp) (E0 : XK) (c : Wd) (hcc : Cc cl tb c) (hr : Room 0 (A.deeper (PyProof.Rows.envOfC "number_in" (defScope s_number_in) sh.heap.objs.size f cdv))) :
    PDSs c (cxOf (L2N.CX P w) P w K mg base ["text", "digit"] "number_in" (defScope s_number_in) f cdv A outer sh H E0) (defBody s_number_in) (t_number_in) :=
    (pdss_cons (pds_if (PW.pt (pdw_or (pdt_not (pdt_val (pd_callB isi_D rfl G.b_isinstance (by decide +kernel) (pda_cons (pd_var 0) (pda_cons (pd_ty G.b_str (by decide +kernel)) pda_nil))))) (pdw_one (pdt_not (pdt_chain opD_le opD_le pd_int (pd_callB len_D rfl G.b_len PySem.boot_len (pda_cons (pd_var 0) pda_nil)) (pd_globC G.c_MOST_DIGITS)))))) (pdss_one (pds_ret pd_non)) pdss_nil)
      (pdss_cons (pds_if (PW.pt (pdw_or (pdt_not (pdt_val (pd_callB (all_D rfl) rfl G.b_all (by decide +kernel) (pda_cons (pd_lc (own := [("digit", 1)]) (us := [1]) rfl sc_number_in.nd (pdi_any (pd_var 0)) (blkOk_by (N := ["text", "digit"]) (sc := defScope s_number_in) (own := [("digit", 1)]) (by decide +kernel)) (fun c1 sc1 _ _ _ _ _ => (pdg_name (i := 1) sc_number_in.nd)) (fun c1 sc1 _ _ _ _ _ => pdts_nil) (fun c1 sc1 _ _ _ _ _ => (pd_cmp (opD_inE hr.units) (pd_var 1) (pd_globC G.c_DIGITS)))) pda_nil)))) (pdw_one (PW.pt (pdw_and (pdt_cmp (eq_flat hr.units) (pd_ixE hr.units (pd_var 0) pd_int) pd_str) (pdw_one (pdt_cmp (ne_flat hr.units) (pd_var 0) pd_str))))))) (pdss_one (pds_ret pd_non)) pdss_nil)
      (pdss_one (pds_ret (pd_callTy int_D rfl G.b_int (by decide +kernel) (pda_cons (pd_var 0) pda_nil))))))
theorem ok_number_in (G : Gb P w K mg base cl) {dvs : List V} {kws : List (Str × V)} {f : Addr} {fd : FuncData} (F : FunD K "number_in" "number_in" (defArgs s_number_in) (defBody s_number_in) (defScope s_number_in) dvs kws f fd) : FnOk P w K mg base (L2N.CX P w) 1 f fd ["text"] (upX K cl tb sp_number_in) :=
  fnX F sc_number_in (t := fun _ => t_number_in) (fun cdv A outer sh H E0 c E hcc hr tk => dv_number_in G cdv A outer sh H E0 c hcc hr) pure_number_in
theorem dv_items_in (G : Gb P w K mg base cl) (F_number_in : Fnd P w K mg base cl tb 1 "number_in" s_number_in ["text"] sp_number_in) {f : Addr} (cdv : Value) (A : Around) (outer : List Env) (sh : Shared) (H : Hp) (E0 : XK) (c : Wd) (hcc : Cc cl tb c) (hr : Room 1 (A.deeper (PyProof.Rows.envOfC "items_in" (defScope s_items_in) sh.heap.objs.size f cdv))) :
    PDSs c (cxOf (L2N.CX P w) P w K mg base ["words", "missing", "items", "word", "item"] "items_in" (defScope s_items_in) f cdv A outer sh H E0) (defBody s_items_in) (t_items_in) :=
    (pdss_cons (pds_set (i := 2) sc_items_in.nd (pd_lstO pda_nil))
      (pdss_cons (pds_for (vs := [3]) (passes_of rfl) rfl (pdi_any (pd_var 0)) (pdg_name (i := 3) sc_items_in.nd) (pdss_cons (pds_set (i := 4) sc_items_in.nd (pd_if (pdt_cmp (eq_flat hr.units) (pd_var 3) (pd_var 1)) pd_non (pd_call hcc F_number_in (hr.mono (by decide)) tk0 (pda_cons (pd_var 3) pda_nil))))
      (pdss_cons (pds_if (PW.pt (pdw_and (pdt_cmp (ne_flat hr.units) (pd_var 3) (pd_var 1)) (pdw_one (PW.pt (pdw_or (pdt_cmp opD_is (pd_var 4) pd_non) (pdw_one (pdt_cmp opD_gt (pd_var 4) (pd_globC G.c_GREATEST_charttexts)))))))) (pdss_one (pds_ret pd_non)) pdss_nil)
      (pdss_one (pds_expr (pd_append (pd_var 2) (pd_var 4)))))))
      (pdss_one (pds_ret (pd_var 2)))))
theorem ok_items_in (G : Gb P w K mg base cl) (F_number_in : Fnd P w K mg base cl tb 1 "number_in" s_number_in ["text"] sp_number_in) {dvs : List V} {kws : List (Str × V)} {f : Addr} {fd : FuncData} (F : FunD K "items_in" "items_in" (defArgs s_items_in) (defBody s_items_in) (defScope s_items_in) dvs kws f fd) : FnOk P w K mg base (L2N.CX P w) 2 f fd ["words", "missing"] (upX K cl tb sp_items_in) :=
  fnXz F sc_items_in (t := fun _ => t_items_in) (fun cdv A outer sh H E0 c E hcc hr tk => dv_items_in G F_number_in cdv A outer sh H E0 c hcc hr) pure_items_in
theorem dv_has_water (G : Gb P w K mg base cl) {f : Addr} (cdv : Value) (A : Around) (outer : List Env) (sh : Shared) (H : Hp) (E0 : XK) (c : Wd) (hcc : Cc cl tb c) (hr : Room 0 (A.deeper (PyProof.Rows.envOfC "has_water" (defScope s_has_water) sh.heap.objs.size f cdv))) :
    PDSs c (cxOf (L2N.CX P w) P w K mg base ["rows", "row", "drag"] "has_water" (defScope s_has_water) f cdv A outer sh H E0) (defBody s_has_water) (t_has_water) :=
    (pdss_one (pds_ret (pd_callB (any_D rfl) rfl G.b_any (by decide +kernel) (pda_cons (pd_lc2 (own := [("row", 1), ("drag", 2)]) (us := [1]) (us1 := [2]) (vs1 := [2]) rfl sc_has_water.nd (pdi_any (pd_var 0)) (blkOk_by (N := ["rows", "row", "drag"]) (sc := defScope s_has_water) (own := [("row", 1), ("drag", 2)]) (by decide +kernel)) (fun c1 sc1 _ _ _ _ _ => (pdg_name (i := 1) sc_has_water.nd)) (fun c1 sc1 _ _ _ _ _ => pdts_nil) (fun c1 sc1 _ _ _ _ _ => (pdi_any (pd_var 1))) (fun c1 sc1 _ _ _ _ _ => (pdg_name (i := 2) sc_has_water.nd)) (fun c1 sc1 _ _ _ _ _ => pdts_nil) (fun c1 sc1 _ _ _ _ _ => (pd_cmp opD_isnot (pd_var 2) pd_non))) pda_nil))))
theorem ok_has_water (G : Gb P w K mg base cl) {dvs : List V} {kws : List (Str × V)} {f : Addr} {fd : FuncData} (F : FunD K "has_water" "has_water" (defArgs s_has_water) (defBody s_has_water) (defScope s_has_water) dvs kws f fd) : FnOk P w K mg base (L2N.CX P w) 1 f fd ["rows"] (upX K cl tb sp_has_water) :=
  fnX F sc_has_water (t := fun _ => t_has_water) (fun cdv A outer sh H E0 c E hcc hr tk => dv_has_water G cdv A outer sh H E0 c hcc hr) pure_has_water
theorem dv_read_top (G : Gb P w K mg base cl) (F_number_in : Fnd P w K mg base cl tb 1 "number_in" s_number_in ["text"] sp_number_in) {f : Addr} (cdv : Value) (A : Around) (outer : List Env) (sh : Shared) (H : Hp) (E0 : XK) (c : Wd) (E : DXK) (hcc : Cc cl tb c) (hr : Room 2 (A.deeper (PyProof.Rows.envOfC "read_top" (defScope s_read_top) sh.heap.objs.size f cdv))) (tk : Tk c (cxOf (L2N.CX P w) P w K mg base ["words", "top"] "read_top" (defScope s_read_top) f cdv A outer sh H E0) E) :
    PDSs c (cxOf (L2N.CX P w) P w K mg base ["words", "top"] "read_top" (defScope s_read_top) f cdv A outer sh H E0) (defBody s_read_top) (t_read_top E) :=
    (pdss_cons (pds_set (i := 1) sc_read_top.nd (pd_if (PW.pt (pdw_and (pdt_cmp (eq_flat hr.units) (pd_callB len_D rfl G.b_len PySem.boot_len (pda_cons (pd_var 0) pda_nil)) pd_int) (pdw_one (pdt_cmp (eq_flat hr.units) (pd_ixE hr.units (pd_var 0) pd_int) pd_str)))) (pd_call hcc F_number_in (hr.mono (by decide)) tk0 (pda_cons (pd_ixE hr.units (pd_var 0) pd_int) pda_nil)) pd_non))
      (pdss_cons (pds_if (PW.pt (pdw_or (pdt_cmp opD_is (pd_var 1) pd_non) (pdw_one (pdt_not (pdt_chain opD_le opD_le pd_int (pd_var 1) (pd_globC G.c_GREATEST_charttexts)))))) (pdss_one (pds_raise hcc.cl rfl G.x_InvalidText (hr.mono (by decide)) tk (pda_cons pd_int (pda_cons pd_str pda_nil)))) pdss_nil)
      (pdss_one (pds_ret (pd_var 1)))))
theorem ok_read_top (G : Gb P w K mg base cl) (F_number_in : Fnd P w K mg base cl tb 1 "number_in" s_number_in ["text"] sp_number_in) {dvs : List V} {kws : List (Str × V)} {f : Addr} {fd : FuncData} (F : FunD K "read_top" "read_top" (defArgs s_read_top) (defBody s_read_top) (defScope s_read_top) dvs kws f fd) : FnOk P w K mg base (L2N.CX P w) 3 f fd ["words"] (upX K cl tb sp_read_top) :=
  fnX F sc_read_top (t := fun E => t_read_top E) (fun cdv A outer sh H E0 c E hcc hr tk => dv_read_top G F_number_in cdv A outer sh H E0 c E hcc hr tk) pure_read_top
theorem dv_read_row (G : Gb P w K mg base cl) (F_items_in : Fnd P w K mg base cl tb 2 "items_in" s_items_in ["words", "missing"] sp_items_in) {f : Addr} (cdv : Value) (A : Around) (outer : List Env) (sh : Shared) (H : Hp) (E0 : XK) (c : Wd) (E : DXK) (hcc : Cc cl tb c) (hr : Room 2 (A.deeper (PyProof.Rows.envOfC "read_row" (defScope s_read_row) sh.heap.objs.size f cdv))) (tk : Tk c (cxOf (L2N.CX P w) P w K mg base ["at", "words", "rows", "winds", "items"] "read_row" (defScope s_read_row) f cdv A outer sh H E0) E) :
    PDSs c (cxOf (L2N.CX P w) P w K mg base ["at", "words", "rows", "winds", "items"] "read_row" (defScope s_read_row) f cdv A outer sh H E0) (defBody s_read_row) (t_read_row E) :=
    (pdss_cons (pds_set (i := 4) sc_read_row.nd (pd_call hcc F_items_in (hr.mono (by decide)) tk0 (pda_cons (pd_slice (pd_var 1) (pdo_some pd_int) pdo_none) (pda_cons pd_str pda_nil))))
      (pdss_cons (pds_if (PW.pt (pdw_or (pdt_cmp opD_gt (pd_callB len_D rfl G.b_len PySem.boot_len (pda_cons (pd_var 3) pda_nil)) pd_int) (pdw_or (pdt_cmp opD_is (pd_var 4) pd_non) (pdw_one (pdt_not (pdt_chain opD_le opD_le pd_int (pd_callB len_D rfl G.b_len PySem.boot_len (pda_cons (pd_var 4) pda_nil)) (pd_globC G.c_MOST_ITEMS))))))) (pdss_one (pds_raise hcc.cl rfl G.x_InvalidText (hr.mono (by decide)) tk (pda_cons (pd_var 0) (pda_cons pd_str pda_nil)))) pdss_nil)
      (pdss_cons (pds_if (pdt_cmp (eq_flat hr.units) (pd_callB len_D rfl G.b_len PySem.boot_len (pda_cons (pd_var 2) pda_nil)) (pd_globC G.c_MOST_ROWS)) (pdss_one (pds_raise hcc.cl rfl G.x_InvalidText (hr.mono (by decide)) tk (pda_cons (pd_var 0) (pda_cons pd_str pda_nil)))) pdss_nil)
      (pdss_cons (pds_if (PW.pt (pdw_and (pdt_cmp opD_gt (pd_callB len_D rfl G.b_len PySem.boot_len (pda_cons (pd_var 2) pda_nil)) pd_int) (pdw_one (pdt_cmp (ne_flat hr.units) (pd_callB len_D rfl G.b_len PySem.boot_len (pda_cons (pd_var 4) pda_nil)) (pd_callB len_D rfl G.b_len PySem.boot_len (pda_cons (pd_ixE hr.units (pd_var 2) pd_int) pda_nil)))))) (pdss_one (pds_raise hcc.cl rfl G.x_InvalidText (hr.mono (by decide)) tk (pda_cons (pd_var 0) (pda_cons pd_str pda_nil)))) pdss_nil)
      (pdss_one (pds_ret (pd_var 4)))))))
theorem ok_read_row (G : Gb P w K mg base cl) (F_items_in : Fnd P w K mg base cl tb 2 "items_in" s_items_in ["words", "missing"] sp_items_in) {dvs : List V} {kws : List (Str × V)} {f : Addr} {fd : FuncData} (F : FunD K "read_row" "read_row" (defArgs s_read_row) (defBody s_read_row) (defScope s_read_row) dvs kws f fd) : FnOk P w K mg base (L2N.CX P w) 3 f fd ["at", "words", "rows", "winds"] (upX K cl tb sp_read_row) :=
  fnXz F sc_read_row (t := fun E => t_read_row E) (fun cdv A outer sh H E0 c E hcc hr tk => dv_read_row G F_items_in cdv A outer sh H E0 c E hcc hr tk) pure_read_row
theorem dv_read_wind (G : Gb P w K mg base cl) (F_has_water : Fnd P w K mg base cl tb 1 "has_water" s_has_water ["rows"] sp_has_water) (F_items_in : Fnd P w K mg base cl tb 2 "items_in" s_items_in ["words", "missing"] sp_items_in) {f : Addr} (cdv : Value) (A : Around) (outer : List Env) (sh : Shared) (H : Hp) (E0 : XK) (c : Wd) (E : DXK) (hcc : Cc cl tb c) (hr : Room 2 (A.deeper (PyProof.Rows.envOfC "read_wind" (defScope s_read_wind) sh.heap.objs.size f cdv))) (tk : Tk c (cxOf (L2N.CX P w) P w K mg base ["at", "words", "rows", "winds", "items"] "read_wind" (defScope s_read_wind) f cdv A outer sh H E0) E) :
    PDSs c (cxOf (L2N.CX P w) P w K mg base ["at", "words", "rows", "winds", "items"] "read_wind" (defScope s_read_wind) f cdv A outer sh H E0) (defBody s_read_wind) (t_read_wind E) :=
    (pdss_cons (pds_set (i := 4) sc_read_wind.nd (pd_call hcc F_items_in (hr.mono (by decide)) tk0 (pda_cons (pd_slice (pd_var 1) (pdo_some pd_int) pdo_none) (pda_cons pd_str pda_nil))))
      (pdss_cons (pds_if (PW.pt (pdw_or (pdt_cmp (eq_flat hr.units) (pd_callB len_D rfl G.b_len PySem.boot_len (pda_cons (pd_var 2) pda_nil)) pd_int) (pdw_or (pdt_cmp opD_is (pd_var 4) pd_non) (pdw_one (pdt_cmp (ne_flat hr.units) (pd_callB len_D rfl G.b_len PySem.boot_len (pda_cons (pd_var 4) pda_nil)) (pd_globC G.c_TOLLS)))))) (pdss_one (pds_raise hcc.cl rfl G.x_InvalidText (hr.mono (by decide)) tk (pda_cons (pd_var 0) (pda_cons pd_str pda_nil)))) pdss_nil)
      (pdss_cons (pds_if (pdt_cmp (eq_flat hr.units) (pd_callB len_D rfl G.b_len PySem.boot_len (pda_cons (pd_var 3) pda_nil)) (pd_globC G.c_MOST_WINDS)) (pdss_one (pds_raise hcc.cl rfl G.x_InvalidText (hr.mono (by decide)) tk (pda_cons (pd_var 0) (pda_cons pd_str pda_nil)))) pdss_nil)
      (pdss_cons (pds_if (pdt_not (pdt_val (pd_call hcc F_has_water (hr.mono (by decide)) tk0 (pda_cons (pd_var 2) pda_nil)))) (pdss_one (pds_raise hcc.cl rfl G.x_InvalidText (hr.mono (by decide)) tk (pda_cons (pd_var 0) (pda_cons pd_str pda_nil)))) pdss_nil)
      (pdss_one (pds_ret (pd_callTy tup_D rfl G.b_tuple (by decide +kernel) (pda_cons (pd_fz (pd_var 4)) pda_nil))))))))
theorem ok_read_wind (G : Gb P w K mg base cl) (F_has_water : Fnd P w K mg base cl tb 1 "has_water" s_has_water ["rows"] sp_has_water) (F_items_in : Fnd P w K mg base cl tb 2 "items_in" s_items_in ["words", "missing"] sp_items_in) {dvs : List V} {kws : List (Str × V)} {f : Addr} {fd : FuncData} (F : FunD K "read_wind" "read_wind" (defArgs s_read_wind) (defBody s_read_wind) (defScope s_read_wind) dvs kws f fd) : FnOk P w K mg base (L2N.CX P w) 3 f fd ["at", "words", "rows", "winds"] (upX K cl tb sp_read_wind) :=
  fnXz F sc_read_wind (t := fun E => t_read_wind E) (fun cdv A outer sh H E0 c E hcc hr tk => dv_read_wind G F_has_water F_items_in cdv A outer sh H E0 c E hcc hr tk) pure_read_wind
theorem dv_read_parts (G : Gb P w K mg base cl) (F_has_water : Fnd P w K mg base cl tb 1 "has_water" s_has_water ["rows"] sp_has_water) (F_read_row : Fnd P w K mg base cl tb 3 "read_row" s_read_row ["at", "words", "rows", "winds"] sp_read_row) (F_read_top : Fnd P w K mg base cl tb 3 "read_top" s_read_top ["words"] sp_read_top) (F_read_wind : Fnd P w K mg base cl tb 3 "read_wind" s_read_wind ["at", "words", "rows", "winds"] sp_read_wind) {f : Addr} (cdv : Value) (A : Around) (outer : List Env) (sh : Shared) (H : Hp) (E0 : XK) (c : Wd) (E : DXK) (hcc : Cc cl tb c) (hr : Room 3 (A.deeper (PyProof.Rows.envOfC "read_parts" (defScope s_read_parts) sh.heap.objs.size f cdv))) (tk : Tk c (cxOf (L2N.CX P w) P w K mg base ["text", "lines", "rest", "rows", "winds", "top", "at", "line", "words"] "read_parts" (defScope s_read_parts) f cdv A outer sh H E0) E) :
    PDSs c (cxOf (L2N.CX P w) P w K mg base ["text", "lines", "rest", "rows", "winds", "top", "at", "line", "words"] "read_parts" (defScope s_read_parts) f cdv A outer sh H E0) (defBody s_read_parts) (t_read_parts E) :=
    (pdss_cons (pds_if (pdt_not (pdt_val (pd_callB isi_D rfl G.b_isinstance (by decide +kernel) (pda_cons (pd_var 0) (pda_cons (pd_ty G.b_str (by decide +kernel)) pda_nil))))) (pdss_one (pds_raise hcc.cl rfl G.x_InvalidText (hr.mono (by decide)) tk (pda_cons pd_int (pda_cons pd_str pda_nil)))) pdss_nil)
      (pdss_cons (pds_asg (vs := [2, 1]) (pd_split (pd_var 0) pd_str) (pdg_star rfl (pdgs_cons (pdg_name (i := 1) sc_read_parts.nd) (pdgs_cons (pdg_name (i := 2) sc_read_parts.nd) pdgs_nil))))
      (pdss_cons (pds_par3 (ps_par3 (by rfl) sc_read_parts.nd rfl rfl rfl (by decide) (by decide) (by decide) rfl rfl rfl (pda_cons (pd_lstO pda_nil) (pda_cons (pd_lstO pda_nil) (pda_cons pd_int pda_nil))) (by rfl)))
      (pdss_cons (pds_for (vs := [6, 7]) (passes_of rfl) rfl (pdi_enT G.b_enumerate (pda_cons (pd_var 1) pda_nil)) (pdg_tup rfl (pdgs_cons (pdg_name (i := 6) sc_read_parts.nd) (pdgs_cons (pdg_name (i := 7) sc_read_parts.nd) pdgs_nil))) (pdss_cons (pds_set (i := 8) sc_read_parts.nd (pd_split (pd_var 7) pd_str))
      (pdss_one (pds_if (pdt_cmp (eq_flat hr.units) (pd_var 6) pd_int) (pdss_one (pds_set (i := 5) sc_read_parts.nd (pd_call hcc F_read_top (hr.mono (by decide)) tk (pda_cons (pd_var 8) pda_nil)))) (pdss_one (pds_if (pdt_cmp (eq_flat hr.units) (pd_ixE hr.units (pd_var 8) pd_int) pd_str) (pdss_one (pds_expr (pd_append (pd_var 3) (pd_call hcc F_read_row.lend (hr.mono (by decide)) tk (pda_cons (pd_var 6) (pda_cons (pd_var 8) (pda_cons (pd_var 3) (pda_cons (pd_var 4) pda_nil)))))))) (pdss_one (pds_if (pdt_cmp (eq_flat hr.units) (pd_ixE hr.units (pd_var 8) pd_int) pd_str) (pdss_one (pds_expr (pd_append (pd_var 4) (pd_call hcc F_read_wind.lend (hr.mono (by decide)) tk (pda_cons (pd_var 6) (pda_cons (pd_var 8) (pda_cons (pd_var 3) (pda_cons (pd_var 4) pda_nil)))))))) (pdss_one (pds_if (PW.pt (pdw_or (pdt_cmp (ne_flat hr.units) (pd_var 7) pd_str) (pdw_one (pdt_cmp (eq_flat hr.units) (pd_callB len_D rfl G.b_len PySem.boot_len (pda_cons (pd_var 3) pda_nil)) pd_int)))) (pdss_one (pds_raise hcc.cl rfl G.x_InvalidText (hr.mono (by decide)) tk (pda_cons (pd_var 6) (pda_cons pd_str pda_nil)))) (pdss_one (pds_if (pdt_not (pdt_val (pd_call hcc F_has_water.lend (hr.mono (by decide)) tk0 (pda_cons (pd_var 3) pda_nil)))) (pdss_one (pds_raise hcc.cl rfl G.x_InvalidText (hr.mono (by decide)) tk (pda_cons (pd_var 6) (pda_cons pd_str pda_nil)))) (pdss_one (pds_ret (pd_tup (pda_cons (pd_var 3) (pda_cons (pd_var 4) (pda_cons (pd_var 5) (pda_cons (pd_op opD_add (pd_var 6) pd_int) pda_nil)))))))))))))))))))
      (pdss_one (pds_raise hcc.cl rfl G.x_InvalidText (hr.mono (by decide)) tk (pda_cons (pd_callB len_D (by rfl) G.b_len PySem.boot_len (pda_cons (pd_var 1) pda_nil)) (pda_cons (pd_if (pdt_cmp (eq_flat hr.units) (pd_var 2) pd_str) pd_str pd_str) pda_nil))))))))
theorem ok_read_parts (G : Gb P w K mg base cl) (F_has_water : Fnd P w K mg base cl tb 1 "has_water" s_has_water ["rows"] sp_has_water) (F_read_row : Fnd P w K mg base cl tb 3 "read_row" s_read_row ["at", "words", "rows", "winds"] sp_read_row) (F_read_top : Fnd P w K mg base cl tb 3 "read_top" s_read_top ["words"] sp_read_top) (F_read_wind : Fnd P w K mg base cl tb 3 "read_wind" s_read_wind ["at", "words", "rows", "winds"] sp_read_wind) {dvs : List V} {kws : List (Str × V)} {f : Addr} {fd : FuncData} (F : FunD K "read_parts" "read_parts" (defArgs s_read_parts) (defBody s_read_parts) (defScope s_read_parts) dvs kws f fd) : FnOk P w K mg base (L2N.CX P w) 4 f fd ["text"] (upX K cl tb sp_read_parts) :=
  fnXz F sc_read_parts (t := fun E => t_read_parts E) (fun cdv A outer sh H E0 c E hcc hr tk => dv_read_parts G F_has_water F_read_row F_read_top F_read_wind cdv A outer sh H E0 c E hcc hr tk) pure_read_parts
theorem dv_is_wind (G : Gb P w K mg base cl) (F_is_number : Fnd P w K mg base cl tb 1 "is_number" s_is_number ["value", "least", "most"] sp_is_number) {f : Addr} (cdv : Value) (A : Around) (outer : List Env) (sh : Shared) (H : Hp) (E0 : XK) (c : Wd) (hcc : Cc cl tb c) (hr : Room 1 (A.deeper (PyProof.Rows.envOfC "is_wind" (defScope s_is_wind) sh.heap.objs.size f cdv))) :
    PDSs c (cxOf (L2N.CX P w) P w K mg base ["value", "toll"] "is_wind" (defScope s_is_wind) f cdv A outer sh H E0) (defBody s_is_wind) (t_is_wind) :=
    (pdss_cons (pds_if (PW.pt (pdw_or (pdt_not (pdt_val (pd_callB isi_D rfl G.b_isinstance (by decide +kernel) (pda_cons (pd_var 0) (pda_cons (pd_ty G.b_tuple (by decide +kernel)) pda_nil))))) (pdw_one (pdt_cmp (ne_flat hr.units) (pd_callB len_D rfl G.b_len PySem.boot_len (pda_cons (pd_var 0) pda_nil)) (pd_callB len_D rfl G.b_len PySem.boot_len (pda_cons (pd_globC G.c_DIRECTIONS) pda_nil)))))) (pdss_one (pds_ret pd_bl)) pdss_nil)
      (pdss_one (pds_ret (pd_callB (all_D rfl) rfl G.b_all (by decide +kernel) (pda_cons (pd_lc (own := [("toll", 1)]) (us := [1]) rfl sc_is_wind.nd (pdi_any (pd_var 0)) (blkOk_by (N := ["value", "toll"]) (sc := defScope s_is_wind) (own := [("toll", 1)]) (by decide +kernel)) (fun c1 sc1 _ _ _ _ _ => (pdg_name (i := 1) sc_is_wind.nd)) (fun c1 sc1 _ _ _ _ _ => pdts_nil) (fun c1 sc1 _ _ _ _ _ => (pd_or (pd_cmp opD_is (pd_var 1) pd_non) (pd_one (pd_call (hcc.sc sc1) F_is_number (hr.mono (by decide)) tk0 (pda_cons (pd_var 1) (pda_cons pd_int (pda_cons (pd_globC G.c_MOST_TOLL) pda_nil)))))))) pda_nil)))))
theorem ok_is_wind (G : Gb P w K mg base cl) (F_is_number : Fnd P w K mg base cl tb 1 "is_number" s_is_number ["value", "least", "most"] sp_is_number) {dvs : List V} {kws : List (Str × V)} {f : Addr} {fd : FuncData} (F : FunD K "is_wind" "is_wind" (defArgs s_is_wind) (defBody s_is_wind) (defScope s_is_wind) dvs kws f fd) : FnOk P w K mg base (L2N.CX P w) 2 f fd ["value"] (upX K cl tb sp_is_wind) :=
  fnX F sc_is_wind (t := fun _ => t_is_wind) (fun cdv A outer sh H E0 c E hcc hr tk => dv_is_wind G F_is_number cdv A outer sh H E0 c hcc hr) pure_is_wind
theorem dv_is_listed (G : Gb P w K mg base cl) {f : Addr} (cdv : Value) (A : Around) (outer : List Env) (sh : Shared) (H : Hp) (E0 : XK) (c : Wd) (hcc : Cc cl tb c) (hr : Room 0 (A.deeper (PyProof.Rows.envOfC "is_listed" (defScope s_is_listed) sh.heap.objs.size f cdv))) :
    PDSs c (cxOf (L2N.CX P w) P w K mg base ["value", "least", "most"] "is_listed" (defScope s_is_listed) f cdv A outer sh H E0) (defBody s_is_listed) (t_is_listed) :=
    (pdss_one (pds_ret (pd_and (pd_callB isi_D rfl G.b_isinstance (by decide +kernel) (pda_cons (pd_var 0) (pda_cons (pd_tup (pda_cons (pd_ty G.b_list (by decide +kernel)) (pda_cons (pd_ty G.b_tuple (by decide +kernel)) pda_nil))) pda_nil))) (pd_one (pd_chain opD_le opD_le (pd_var 1) (pd_callB len_D rfl G.b_len PySem.boot_len (pda_cons (pd_var 0) pda_nil)) (pd_var 2))))))
theorem ok_is_listed (G : Gb P w K mg base cl) {dvs : List V} {kws : List (Str × V)} {f : Addr} {fd : FuncData} (F : FunD K "is_listed" "is_listed" (defArgs s_is_listed) (defBody s_is_listed) (defScope s_is_listed) dvs kws f fd) : FnOk P w K mg base (L2N.CX P w) 1 f fd ["value", "least", "most"] (upX K cl tb sp_is_listed) :=
  fnX F sc_is_listed (t := fun _ => t_is_listed) (fun cdv A outer sh H E0 c E hcc hr tk => dv_is_listed G cdv A outer sh H E0 c hcc hr) pure_is_listed
theorem dv_check_rows (G : Gb P w K mg base cl) (F_has_water : Fnd P w K mg base cl tb 1 "has_water" s_has_water ["rows"] sp_has_water) (F_is_listed : Fnd P w K mg base cl tb 1 "is_listed" s_is_listed ["value", "least", "most"] sp_is_listed) (F_is_number : Fnd P w K mg base cl tb 1 "is_number" s_is_number ["value", "least", "most"] sp_is_number) {f : Addr} (cdv : Value) (A : Around) (outer : List Env) (sh : Shared) (H : Hp) (E0 : XK) (c : Wd) (E : DXK) (hcc : Cc cl tb c) (hr : Room 2 (A.deeper (PyProof.Rows.envOfC "check_rows" (defScope s_check_rows) sh.heap.objs.size f cdv))) (tk : Tk c (cxOf (L2N.CX P w) P w K mg base ["rows", "at", "row", "column", "drag"] "check_rows" (defScope s_check_rows) f cdv A outer sh H E0) E) :
    PDSs c (cxOf (L2N.CX P w) P w K mg base ["rows", "at", "row", "column", "drag"] "check_rows" (defScope s_check_rows) f cdv A outer sh H E0) (defBody s_check_rows) (t_check_rows E) :=
    (pdss_cons (pds_if (pdt_not (pdt_val (pd_call hcc F_is_listed (hr.mono (by decide)) tk0 (pda_cons (pd_var 0) (pda_cons pd_int (pda_cons (pd_ccon G.cc_Chart_MOST_ROWS) pda_nil)))))) (pdss_one (pds_raise hcc.cl rfl G.x_InvalidChart (hr.mono (by decide)) tk (pda_cons (pd_neg pd_int) (pda_cons (pd_neg pd_int) pda_nil)))) pdss_nil)
      (pdss_cons (pds_for (vs := [1, 2]) (passes_of rfl) rfl (pdi_enT G.b_enumerate (pda_cons (pd_var 0) pda_nil)) (pdg_tup rfl (pdgs_cons (pdg_name (i := 1) sc_check_rows.nd) (pdgs_cons (pdg_name (i := 2) sc_check_rows.nd) pdgs_nil))) (pdss_cons (pds_if (PW.pt (pdw_or (pdt_not (pdt_val (pd_call hcc F_is_listed (hr.mono (by decide)) tk0 (pda_cons (pd_var 2) (pda_cons pd_int (pda_cons (pd_ccon G.cc_Chart_MOST_ROWS) pda_nil)))))) (pdw_one (pdt_cmp (ne_flat hr.units) (pd_callB len_D rfl G.b_len PySem.boot_len (pda_cons (pd_var 2) pda_nil)) (pd_callB len_D rfl G.b_len PySem.boot_len (pda_cons (pd_ixE hr.units (pd_var 0) pd_int) pda_nil)))))) (pdss_one (pds_raise hcc.cl rfl G.x_InvalidChart (hr.mono (by decide)) tk (pda_cons (pd_var 1) (pda_cons (pd_neg pd_int) pda_nil)))) pdss_nil)
      (pdss_one (pds_for (vs := [3, 4]) (passes_of rfl) rfl (pdi_enT G.b_enumerate (pda_cons (pd_var 2) pda_nil)) (pdg_tup rfl (pdgs_cons (pdg_name (i := 3) sc_check_rows.nd) (pdgs_cons (pdg_name (i := 4) sc_check_rows.nd) pdgs_nil))) (pdss_one (pds_if (PW.pt (pdw_and (pdt_cmp opD_isnot (pd_var 4) pd_non) (pdw_one (pdt_not (pdt_val (pd_call hcc F_is_number (hr.mono (by decide)) tk0 (pda_cons (pd_var 4) (pda_cons pd_int (pda_cons (pd_globC G.c_GREATEST_charts) pda_nil))))))))) (pdss_one (pds_raise hcc.cl rfl G.x_InvalidChart (hr.mono (by decide)) tk (pda_cons (pd_var 1) (pda_cons (pd_var 3) pda_nil)))) pdss_nil))))))
      (pdss_one (pds_if (pdt_not (pdt_val (pd_call hcc F_has_water (hr.mono (by decide)) tk0 (pda_cons (pd_var 0) pda_nil)))) (pdss_one (pds_raise hcc.cl rfl G.x_InvalidChart (hr.mono (by decide)) tk (pda_cons (pd_neg pd_int) (pda_cons (pd_neg pd_int) pda_nil)))) pdss_nil))))
theorem ok_check_rows (G : Gb P w K mg base cl) (F_has_water : Fnd P w K mg base cl tb 1 "has_water" s_has_water ["rows"] sp_has_water) (F_is_listed : Fnd P w K mg base cl tb 1 "is_listed" s_is_listed ["value", "least", "most"] sp_is_listed) (F_is_number : Fnd P w K mg base cl tb 1 "is_number" s_is_number ["value", "least", "most"] sp_is_number) {dvs : List V} {kws : List (Str × V)} {f : Addr} {fd : FuncData} (F : FunD K "check_rows" "check_rows" (defArgs s_check_rows) (defBody s_check_rows) (defScope s_check_rows) dvs kws f fd) : FnOk P w K mg base (L2N.CX P w) 3 f fd ["rows"] (upX K cl tb sp_check_rows) :=
  fnX F sc_check_rows (t := fun E => t_check_rows E) (fun cdv A outer sh H E0 c E hcc hr tk => dv_check_rows G F_has_water F_is_listed F_is_number cdv A outer sh H E0 c E hcc hr tk) pure_check_rows
theorem dv_check_winds (G : Gb P w K mg base cl) (F_is_listed : Fnd P w K mg base cl tb 1 "is_listed" s_is_listed ["value", "least", "most"] sp_is_listed) (F_is_wind : Fnd P w K mg base cl tb 2 "is_wind" s_is_wind ["value"] sp_is_wind) {f : Addr} (cdv : Value) (A : Around) (outer : List Env) (sh : Shared) (H : Hp) (E0 : XK) (c : Wd) (E : DXK) (hcc : Cc cl tb c) (hr : Room 2 (A.deeper (PyProof.Rows.envOfC "check_winds" (defScope s_check_winds) sh.heap.objs.size f cdv))) (tk : Tk c (cxOf (L2N.CX P w) P w K mg base ["winds", "at", "wind"] "check_winds" (defScope s_check_winds) f cdv A outer sh H E0) E) :
    PDSs c (cxOf (L2N.CX P w) P w K mg base ["winds", "at", "wind"] "check_winds" (defScope s_check_winds) f cdv A outer sh H E0) (defBody s_check_winds) (t_check_winds E) :=
    (pdss_cons (pds_if (pdt_not (pdt_val (pd_call hcc F_is_listed (hr.mono (by decide)) tk0 (pda_cons (pd_var 0) (pda_cons pd_int (pda_cons (pd_ccon G.cc_Chart_MOST_HOURS) pda_nil)))))) (pdss_one (pds_raise hcc.cl rfl G.x_InvalidWind (hr.mono (by decide)) tk (pda_cons (pd_neg pd_int) pda_nil))) pdss_nil)
      (pdss_one (pds_for (vs := [1, 2]) (passes_of rfl) rfl (pdi_enT G.b_enumerate (pda_cons (pd_var 0) pda_nil)) (pdg_tup rfl (pdgs_cons (pdg_name (i := 1) sc_check_winds.nd) (pdgs_cons (pdg_name (i := 2) sc_check_winds.nd) pdgs_nil))) (pdss_one (pds_if (pdt_not (pdt_val (pd_call hcc F_is_wind (hr.mono (by decide)) tk0 (pda_cons (pd_var 2) pda_nil)))) (pdss_one (pds_raise hcc.cl rfl G.x_InvalidWind (hr.mono (by decide)) tk (pda_cons (pd_var 1) pda_nil))) pdss_nil)))))
theorem ok_check_winds (G : Gb P w K mg base cl) (F_is_listed : Fnd P w K mg base cl tb 1 "is_listed" s_is_listed ["value", "least", "most"] sp_is_listed) (F_is_wind : Fnd P w K mg base cl tb 2 "is_wind" s_is_wind ["value"] sp_is_wind) {dvs : List V} {kws : List (Str × V)} {f : Addr} {fd : FuncData} (F : FunD K "check_winds" "check_winds" (defArgs s_check_winds) (defBody s_check_winds) (defScope s_check_winds) dvs kws f fd) : FnOk P w K mg base (L2N.CX P w) 3 f fd ["winds"] (upX K cl tb sp_check_winds) :=
  fnX F sc_check_winds (t := fun E => t_check_winds E) (fun cdv A outer sh H E0 c E hcc hr tk => dv_check_winds G F_is_listed F_is_wind cdv A outer sh H E0 c E hcc hr tk) pure_check_winds
theorem dv__law_bag (G : Gb P w K mg base cl) {f : Addr} (cdv : Value) (A : Around) (outer : List Env) (sh : Shared) (H : Hp) (E0 : XK) (c : Wd) (hcc : Cc cl tb c) (hr : Room 0 (A.deeper (PyProof.Rows.envOfC "_law_bag" (defScope s__law_bag) sh.heap.objs.size f cdv))) :
    PDSs c (cxOf (L2N.CX P w) P w K mg base ["_law_script", "_law_cells_z", "_law_cell_z", "_law_mark"] "_law_bag" (defScope s__law_bag) f cdv A outer sh H E0) (defBody s__law_bag) (t__law_bag) :=
    (pdss_cons (pds_setLc (i := 1) (own := [("_law_cell_z", 2)]) (us := [2]) rfl sc__law_bag.nd (pdi_any (pd_slice (pd_var 0) pdo_none (pdo_some pd_int))) (blkOk_by (N := ["_law_script", "_law_cells_z", "_law_cell_z", "_law_mark"]) (sc := defScope s__law_bag) (own := [("_law_cell_z", 2)]) (by decide +kernel)) (fun c1 sc1 _ _ _ _ _ => (pdg_name (i := 2) sc__law_bag.nd)) (fun c1 sc1 _ _ _ _ _ => pdts_nil) (fun c1 sc1 _ _ _ _ _ => (pd_callTy int_D rfl G.b_int (by decide +kernel) (pda_cons (pd_var 2) pda_nil))) (sw_true rfl rfl rfl (by decide +kernel)))
      (pdss_cons (pds_set (i := 3) sc__law_bag.nd (pd_op opD_add pd_int (pd_op opD_mul pd_int (pd_callB len_D rfl G.b_len PySem.boot_len (pda_cons (pd_var 1) pda_nil)))))
      (pdss_cons (pds_for (vs := [2]) (passes_of rfl) rfl (pdi_any (pd_var 1)) (pdg_name (i := 2) sc__law_bag.nd) (pdss_one (pds_set (i := 3) sc__law_bag.nd (pd_op opD_mod (pd_callTy int_D rfl G.b_int (by decide +kernel) (pda_cons (pd_op opD_add (pd_op opD_mul (pd_var 3) pd_int) (pd_var 2)) pda_nil)) pd_int))))
      (pdss_one (pds_ret (pd_bag (pda_cons (pd_var 1) (pda_cons pd_int (pda_cons pd_int (pda_cons (pd_var 3) pda_nil))))))))))
theorem ok__law_bag (G : Gb P w K mg base cl) {dvs : List V} {kws : List (Str × V)} {f : Addr} {fd : FuncData} (F : FunD K "_law_bag" "_law_bag" (defArgs s__law_bag) (defBody s__law_bag) (defScope s__law_bag) dvs kws f fd) : FnOk P w K mg base (L2N.CX P w) 1 f fd ["_law_script"] (upX K cl tb sp__law_bag) :=
  fnX F sc__law_bag (t := fun _ => t__law_bag) (fun cdv A outer sh H E0 c E hcc hr tk => dv__law_bag G cdv A outer sh H E0 c hcc hr) pure__law_bag
theorem dv__law_draw (G : Gb P w K mg base cl) {f : Addr} (cdv : Value) (A : Around) (outer : List Env) (sh : Shared) (H : Hp) (E0 : XK) (c : Wd) (hcc : Cc cl tb c) (hr : Room 0 (A.deeper (PyProof.Rows.envOfC "_law_draw" (defScope s__law_draw) sh.heap.objs.size f cdv))) :
    PDSs c (cxOf (L2N.CX P w) P w K mg base ["_law_bag_here", "_law_many", "_law_cell_z", "_law_mixed", "_law_second", "_law_digit"] "_law_draw" (defScope s__law_draw) f cdv A outer sh H E0) (defBody s__law_draw) (t__law_draw) :=
    (pdss_cons (pds_if (pdt_cmp opD_lt (pd_ix (pd_var 0) pd_int) pd_int) (pdss_cons (pds_asg (vs := []) (pd_op opD_add (pd_ix (pd_var 0) pd_int) pd_int) (pdg_ix (pd_var 0) pd_int))
      (pdss_cons (pds_set (i := 2) sc__law_draw.nd (pd_op opD_add (pd_ix (pd_var 0) pd_int) (pd_op opD_mul (pd_ix (pd_var 0) pd_int) pd_int)))
      (pdss_cons (pds_if (pdt_cmp opD_le (pd_ix (pd_var 0) pd_int) (pd_callB len_D rfl G.b_len PySem.boot_len (pda_cons (pd_ix (pd_var 0) pd_int) pda_nil))) (pdss_one (pds_set (i := 2) sc__law_draw.nd (pd_ix (pd_ix (pd_var 0) pd_int) (pd_op opD_sub (pd_ix (pd_var 0) pd_int) pd_int)))) pdss_nil)
      (pdss_cons (pds_if (PW.pt (pdw_or (pdt_cmp opD_gt (pd_ix (pd_var 0) pd_int) (pd_callB len_D rfl G.b_len PySem.boot_len (pda_cons (pd_ix (pd_var 0) pd_int) pda_nil))) (pdw_one (pdt_cmp opD_lt (pd_var 2) (pd_op opD_pow pd_int pd_int))))) (pdss_cons (pds_set (i := 3) sc__law_draw.nd (pd_op opD_mod (pd_callTy int_D rfl G.b_int (by decide +kernel) (pda_cons (pd_op opD_add (pd_op opD_add (pd_op opD_mul (pd_var 2) pd_int) (pd_op opD_mul (pd_ix (pd_var 0) pd_int) pd_int)) (pd_ix (pd_var 0) pd_int)) pda_nil)) pd_int))
      (pdss_cons (pds_set (i := 4) sc__law_draw.nd (pd_op opD_mod (pd_callTy int_D rfl G.b_int (by decide +kernel) (pda_cons (pd_op opD_add (pd_op opD_mul (pd_var 3) (pd_var 3)) (pd_op opD_mul (pd_ix (pd_var 0) pd_int) pd_int)) pda_nil)) pd_int))
      (pdss_one (pds_ret (pd_op opD_mod (pd_op opD_fdiv (pd_op opD_mod (pd_callTy int_D rfl G.b_int (by decide +kernel) (pda_cons (pd_op opD_add (pd_op opD_mul (pd_var 4) pd_int) (pd_var 3)) pda_nil)) pd_int) pd_int) (pd_var 1)))))) pdss_nil)
      (pdss_one (pds_asg (vs := []) (pd_var 2) (pdg_ix (pd_var 0) pd_int))))))) pdss_nil)
      (pdss_cons (pds_set (i := 5) sc__law_draw.nd (pd_op opD_mod (pd_callTy int_D rfl G.b_int (by decide +kernel) (pda_cons (pd_ix (pd_var 0) pd_int) pda_nil)) (pd_var 1)))
      (pdss_cons (pds_asg (vs := []) (pd_op opD_fdiv (pd_callTy int_D rfl G.b_int (by decide +kernel) (pda_cons (pd_ix (pd_var 0) pd_int) pda_nil)) (pd_var 1)) (pdg_ix (pd_var 0) pd_int))
      (pdss_one (pds_ret (pd_var 5))))))
theorem ok__law_draw (G : Gb P w K mg base cl) {dvs : List V} {kws : List (Str × V)} {f : Addr} {fd : FuncData} (F : FunD K "_law_draw" "_law_draw" (defArgs s__law_draw) (defBody s__law_draw) (defScope s__law_draw) dvs kws f fd) : FnOk P w K mg base (L2N.CX P w) 1 f fd ["_law_bag_here", "_law_many"] (upX K cl tb sp0__law_draw) :=
  fnX F sc__law_draw (t := fun _ => t__law_draw) (fun cdv A outer sh H E0 c E hcc hr tk => dv__law_draw G cdv A outer sh H E0 c hcc hr) pure__law_draw
theorem dv__law_pick (G : Gb P w K mg base cl) (F__law_draw : Fnd P w K mg base cl tb 1 "_law_draw" s__law_draw ["_law_bag_here", "_law_many"] sp__law_draw) {f : Addr} (cdv : Value) (A : Around) (outer : List Env) (sh : Shared) (H : Hp) (E0 : XK) (c : Wd) (hcc : Cc cl tb c) (hr : Room 1 (A.deeper (PyProof.Rows.envOfC "_law_pick" (defScope s__law_pick) sh.heap.objs.size f cdv))) :
    PDSs c (cxOf (L2N.CX P w) P w K mg base ["_law_bag_here", "_law_some"] "_law_pick" (defScope s__law_pick) f cdv A outer sh H E0) (defBody s__law_pick) (t__law_pick) :=
    (pdss_one (pds_ret (pd_ix (pd_var 1) (pd_call hcc F__law_draw (hr.mono (by decide)) tk0 (pda_cons (pd_var 0) (pda_cons (pd_callB len_D rfl G.b_len PySem.boot_len (pda_cons (pd_var 1) pda_nil)) pda_nil))))))
theorem ok__law_pick (G : Gb P w K mg base cl) (F__law_draw : Fnd P w K mg base cl tb 1 "_law_draw" s__law_draw ["_law_bag_here", "_law_many"] sp__law_draw) {dvs : List V} {kws : List (Str × V)} {f : Addr} {fd : FuncData} (F : FunD K "_law_pick" "_law_pick" (defArgs s__law_pick) (defBody s__law_pick) (defScope s__law_pick) dvs kws f fd) : FnOk P w K mg base (L2N.CX P w) 2 f fd ["_law_bag_here", "_law_some"] (upX K cl tb sp__law_pick) :=
  fnX F sc__law_pick (t := fun _ => t__law_pick) (fun cdv A outer sh H E0 c E hcc hr tk => dv__law_pick G F__law_draw cdv A outer sh H E0 c hcc hr) pure__law_pick
theorem dv__law_same (G : Gb P w K mg base cl) {sp__law_same : DSp} {k : Nat} (F__law_same : Fnd P w K mg base cl tb k "_law_same" s__law_same ["_law_found", "_law_due"] sp__law_same) {f : Addr} (cdv : Value) (A : Around) (outer : List Env) (sh : Shared) (H : Hp) (E0 : XK) (c : Wd) (hcc : Cc cl tb c) (hr : Room k (A.deeper (PyProof.Rows.envOfC "_law_same" (defScope s__law_same) sh.heap.objs.size f cdv))) :
    PDSs c (cxOf (L2N.CX P w) P w K mg base ["_law_found", "_law_due", "_law_one", "_law_two"] "_law_same" (defScope s__law_same) f cdv A outer sh H E0) (defBody s__law_same) (t__law_same sp__law_same) :=
    (pdss_cons (pds_if (PW.pt (pdw_or (pdt_cmp opD_is (pd_var 1) pd_non) (pdw_one (pdt_cmp opD_is (pd_var 0) pd_non)))) (pdss_one (pds_ret (pd_and (pd_cmp opD_is (pd_var 1) pd_non) (pd_one (pd_cmp opD_is (pd_var 0) pd_non))))) pdss_nil)
      (pdss_cons (pds_if (PW.pt (pdw_or (pdt_val (pd_callB isi_D rfl G.b_isinstance (by decide +kernel) (pda_cons (pd_var 1) (pda_cons (pd_tup (pda_cons (pd_ty G.b_list (by decide +kernel)) (pda_cons (pd_ty G.b_tuple (by decide +kernel)) pda_nil))) pda_nil)))) (pdw_one (pdt_val (pd_callB isi_D rfl G.b_isinstance (by decide +kernel) (pda_cons (pd_var 0) (pda_cons (pd_tup (pda_cons (pd_ty G.b_list (by decide +kernel)) (pda_cons (pd_ty G.b_tuple (by decide +kernel)) pda_nil))) pda_nil))))))) (pdss_cons (pds_if (PW.pt (pdw_or (pdt_cmp (ne_flat hr.units) (pd_callB isi_D rfl G.b_isinstance (by decide +kernel) (pda_cons (pd_var 1) (pda_cons (pd_ty G.b_list (by decide +kernel)) pda_nil))) (pd_callB isi_D rfl G.b_isinstance (by decide +kernel) (pda_cons (pd_var 0) (pda_cons (pd_ty G.b_list (by decide +kernel)) pda_nil)))) (pdw_one (pdt_cmp (ne_flat hr.units) (pd_callB isi_D rfl G.b_isinstance (by decide +kernel) (pda_cons (pd_var 1) (pda_cons (pd_ty G.b_tuple (by decide +kernel)) pda_nil))) (pd_callB isi_D rfl G.b_isinstance (by decide +kernel) (pda_cons (pd_var 0) (pda_cons (pd_ty G.b_tuple (by decide +kernel)) pda_nil))))))) (pdss_one (pds_ret pd_bl)) pdss_nil)
      (pdss_one (pds_ret (pd_and (pd_cmp (eq_flat hr.units) (pd_callB len_D rfl G.b_len PySem.boot_len (pda_cons (pd_var 0) pda_nil)) (pd_callB len_D rfl G.b_len PySem.boot_len (pda_cons (pd_var 1) pda_nil))) (pd_one (pd_callB (all_D rfl) rfl G.b_all (by decide +kernel) (pda_cons (pd_lc (own := [("_law_one", 2), ("_law_two", 3)]) (us := [2, 3]) rfl sc__law_same.nd (pdi_zip G.b_zip (pda_cons (pd_var 0) (pda_cons (pd_var 1) pda_nil))) (blkOk_by (N := ["_law_found", "_law_due", "_law_one", "_law_two"]) (sc := defScope s__law_same) (own := [("_law_one", 2), ("_law_two", 3)]) (by decide +kernel)) (fun c1 sc1 _ _ _ _ _ => (pdg_tup rfl (pdgs_cons (pdg_name (i := 2) sc__law_same.nd) (pdgs_cons (pdg_name (i := 3) sc__law_same.nd) pdgs_nil)))) (fun c1 sc1 _ _ _ _ _ => pdts_nil) (fun c1 sc1 _ _ _ _ _ => (pd_call (hcc.sc sc1) F__law_same hr tk0 (pda_cons (pd_var 2) (pda_cons (pd_var 3) pda_nil))))) pda_nil))))))) pdss_nil)
      (pdss_cons (pds_if (PW.pt (pdw_or (pdt_cmp (ne_flat hr.units) (pd_callB isi_D rfl G.b_isinstance (by decide +kernel) (pda_cons (pd_var 1) (pda_cons (pd_ty G.b_bool (by decide +kernel)) pda_nil))) (pd_callB isi_D rfl G.b_isinstance (by decide +kernel) (pda_cons (pd_var 0) (pda_cons (pd_ty G.b_bool (by decide +kernel)) pda_nil)))) (pdw_one (pdt_cmp (ne_flat hr.units) (pd_callB isi_D rfl G.b_isinstance (by decide +kernel) (pda_cons (pd_var 1) (pda_cons (pd_ty G.b_str (by decide +kernel)) pda_nil))) (pd_callB isi_D rfl G.b_isinstance (by decide +kernel) (pda_cons (pd_var 0) (pda_cons (pd_ty G.b_str (by decide +kernel)) pda_nil))))))) (pdss_one (pds_ret pd_bl)) pdss_nil)
      (pdss_one (pds_ret (pd_and (pd_cmp (eq_flat hr.units) (pd_callB isi_D rfl G.b_isinstance (by decide +kernel) (pda_cons (pd_var 1) (pda_cons (pd_ty G.b_int (by decide +kernel)) pda_nil))) (pd_callB isi_D rfl G.b_isinstance (by decide +kernel) (pda_cons (pd_var 0) (pda_cons (pd_ty G.b_int (by decide +kernel)) pda_nil)))) (pd_one (pd_cmp (eq_flat hr.units) (pd_var 0) (pd_var 1)))))))))
theorem same_ok (G : Gb P w K mg base cl) {f : Addr} {fd : FuncData} (F : FunD K "_law_same" "_law_same" (defArgs s__law_same) (defBody s__law_same) (defScope s__law_same) [] [] f fd) (hm : mg "_law_same" = some (.ref f)) (hb : Binds K fd ["_law_found", "_law_due"] []) : ∀ n : Nat, Fnd P w K mg base cl tb (n + 2) "_law_same" s__law_same ["_law_found", "_law_due"] (spSame n)
  | 0 => ⟨f, fd, F, fnX F sc__law_same (t := fun _ => t__law_same (spPrev 0)) (fun cdv A outer sh H E c E' hcc hr _ => dv__law_same (sp__law_same := spPrev 0) G (Fnd.no F hm hb) cdv A outer sh H E c hcc hr) (pure__law_same 0), hm, hb⟩
  | n + 1 => ⟨f, fd, F, fnX F sc__law_same (t := fun _ => t__law_same (spPrev (n + 1))) (fun cdv A outer sh H E c E' hcc hr _ => dv__law_same (sp__law_same := spPrev (n + 1)) G (same_ok G F hm hb n) cdv A outer sh H E c hcc hr) (pure__law_same (n + 1)), hm, hb⟩
theorem dv__law_field (G : Gb P w K mg base cl) {f : Addr} (cdv : Value) (A : Around) (outer : List Env) (sh : Shared) (H : Hp) (E : XK) (p : Addr × Obj) (c : Wd) (m : Str) (dd : Addr) (hcl : c.cl = cl) (hex : c.ex = some (p.1, c.cl m, dd)) (hz : L2N.Zn (.ref (c.cl m)) (some dd) p.2) (hv : ∃ vs, p.2.data = .fields vs) (hr : L2H.RoomH 0 (A.deeper (PyProof.Rows.envOfC "_law_field" (defScope s__law_field) sh.heap.objs.size f cdv))) :
    PDSs c (L2H.cxH CX0 P w K mg base ["_law_e"] "_law_field" (defScope s__law_field) f cdv A outer sh H E p) (defBody s__law_field) (t__law_field xnames) :=
    (pdss_cons (pds_if (pdt_cmp (eq_flat (RoomH.units hr)) (pd_xf (G.xf hcl (by decide)) hex List.mem_cons_self hz hv (pd_var 0)) pd_str) (pdss_one (pds_ret (pd_tup (pda_cons (pd_xf (G.xf hcl (by decide)) hex List.mem_cons_self hz hv (pd_var 0)) (pda_cons (pd_xf (G.xf hcl (by decide)) hex List.mem_cons_self hz hv (pd_var 0)) pda_nil))))) pdss_nil)
      (pdss_cons (pds_if (pdt_cmp (eq_flat (RoomH.units hr)) (pd_xf (G.xf hcl (by decide)) hex List.mem_cons_self hz hv (pd_var 0)) pd_str) (pdss_one (pds_ret (pd_tup (pda_cons (pd_xf (G.xf hcl (by decide)) hex List.mem_cons_self hz hv (pd_var 0)) (pda_cons (pd_xf (G.xf hcl (by decide)) hex List.mem_cons_self hz hv (pd_var 0)) pda_nil))))) pdss_nil)
      (pdss_cons (pds_if (pdt_cmp opD_in (pd_xf (G.xf hcl (by decide)) hex List.mem_cons_self hz hv (pd_var 0)) (pd_tup (pda_cons pd_str (pda_cons pd_str (pda_cons pd_str (pda_cons pd_str pda_nil)))))) (pdss_one (pds_ret (pd_tup (pda_cons (pd_xf (G.xf hcl (by decide)) hex List.mem_cons_self hz hv (pd_var 0)) pda_nil)))) pdss_nil)
      (pdss_cons (pds_if (pdt_cmp (eq_flat (RoomH.units hr)) (pd_xf (G.xf hcl (by decide)) hex List.mem_cons_self hz hv (pd_var 0)) pd_str) (pdss_one (pds_ret (pd_tup (pda_cons (pd_xf (G.xf hcl (by decide)) hex List.mem_cons_self hz hv (pd_var 0)) pda_nil)))) pdss_nil)
      (pdss_one (pds_ret (pd_if (pdt_cmp opD_in (pd_xf (G.xf hcl (by decide)) hex List.mem_cons_self hz hv (pd_var 0)) (pd_tup (pda_cons pd_str (pda_cons pd_str (pda_cons pd_str pda_nil))))) (pd_tup pda_nil) (pd_tup (pda_cons (pd_xf (G.xf hcl (by decide)) hex List.mem_cons_self hz hv (pd_var 0)) pda_nil)))))))))
theorem ok__law_field (G : Gb P w K mg base cl) {f : Addr} {fd : FuncData} (F : FunD K "_law_field" "_law_field" (defArgs s__law_field) (defBody s__law_field) (defScope s__law_field) [] [] f fd) : FnHp P w K mg base CX0 1 f fd ["_law_e"] (upH K cl (sp__law_field xnames)) :=
  fnH F sc__law_field (fun cdv A outer sh H E p c m dd hcl hex hz hv hr => dv__law_field G cdv A outer sh H E p c m dd hcl hex hz hv hr) (pure__law_field xnames)
theorem dv__law_try (G : Gb P w K mg base cl) (F__law_field : FndH P w K mg base cl 1 "_law_field" s__law_field ["_law_e"] (sp__law_field xnames)) {g : Addr} {A : Around} {outer : List Env} (f : Addr) (tl : DAct) (cdv : Value) (s : Shared) (H : Hp) (cg : Wd) (hcc : Cc cl tb cg) (hr : Room 1 (A.deeper (PyProof.Rows.envOfC "_law_try" (defScope s__law_try) s.heap.objs.size g cdv)))
    (act : ∀ (cb : Wd) (E' : DXK) (pn : List (Addr × Obj)) (xe : Value → Shared → Prop) (p1 p2 : Pos), Cc cl tb cb → Kp cg cb → Tk cb ((cxOf CX0 P w K mg base ["_law_ask", "_law_e"] "_law_try" (defScope s__law_try) g cdv A outer s H E0).tr pn xe) E' → PD cb ((cxOf CX0 P w K mg base ["_law_ask", "_law_e"] "_law_try" (defScope s__law_try) g cdv A outer s H E0).tr pn xe) (.Call (.Name "_law_ask" p1) [] [] p2) (dAct f tl E')) :
    PDSs cg (cxOf CX0 P w K mg base ["_law_ask", "_law_e"] "_law_try" (defScope s__law_try) g cdv A outer s H E0) (defBody s__law_try) (t__law_try xnames f tl) :=
    (pdss_one (pds_try2 (i := 1) (G.cat hcc.cl) hcc.ex sc__law_try.nd ⟨rfl, by decide, .inl G.g_SkyError⟩ ⟨rfl, by decide, .inl G.g_Missing⟩
      (fun cb E' pn xe kp tk hp => (pdss_one (pds_ret (pd_tup (pda_cons pd_str (pda_cons (act cb E' pn xe _ _ (hcc.sc kp.sc) kp tk) pda_nil))))))
      (fun c2 a oe m dd pn hcl2 htb2 hex2 hz hv => (pdss_one (pds_ret (pd_op opD_add (pd_tup (pda_cons pd_str (pda_cons (pd_xf (G.xf (hcl2.trans hcc.cl) (by decide)) hex2 List.mem_cons_self hz hv (pd_var 1)) pda_nil))) (pd_callH (hcl2.trans hcc.cl) hex2 List.mem_cons_self rfl hz hv F__law_field ((roomH_suite hr a).mono (by decide)) (pda_cons (pd_var 1) pda_nil))))))))
theorem dv__law_tries {X : Cx} {k : Nat} (G : Gb X.prog X.w X.K X.mg X.base cl) {g__law_try : Addr} {fd__law_try : FuncData} (F__law_try : FunD X.K "_law_try" "_law_try" (defArgs s__law_try) (defBody s__law_try) (defScope s__law_try) [] [] g__law_try fd__law_try ∧ X.mg "_law_try" = some (.ref g__law_try) ∧ L2.Binds X.K fd__law_try ["_law_ask"] []) (F__law_field : FndH X.prog X.w X.K X.mg X.base cl 1 "_law_field" s__law_field ["_law_e"] (sp__law_field xnames)) {gt : Addr} (cdv : Value) (s : Shared) (H : Hp) (cg : Wd) (acts : List (Addr × DAct)) (hcc : Cc cl tb cg) (hr : Room (k + 2) (X.A.deeper (PyProof.Rows.envOfC "_law_tries" (defScope s__law_tries) s.heap.objs.size gt cdv)))
    (ha : ActsAt cl tb k cg X s H (X.A.deeper (PyProof.Rows.envOfC "_law_tries" (defScope s__law_tries) s.heap.objs.size gt cdv)) (PyProof.Rows.envOfC "_law_tries" (defScope s__law_tries) s.heap.objs.size gt cdv :: X.stack) ["_law_ask", "_law_e"] "_law_try" s__law_try g__law_try "_law_ask" acts) :
    PDSs cg (cxOf CX0 X.prog X.w X.K X.mg X.base ["_law_asks", "_law_ask"] "_law_tries" (defScope s__law_tries) gt cdv X.A X.stack s H E0) (defBody s__law_tries) (t__law_tries xnames acts) :=
    (pdss_one (pds_ret (pd_lcA (own := [("_law_ask", 1)]) (us := [1]) rfl sc__law_tries.nd (pdi_any (pd_var 0)) (blkOk_by (N := ["_law_asks", "_law_ask"]) (sc := defScope s__law_tries) (own := [("_law_ask", 1)]) (by decide +kernel)) (fun c1 sc1 _ _ _ _ _ => (pdg_name (i := 1) sc__law_tries.nd)) (fun c1 kp1 _ _ _ _ _ en => (pd_callA (k := k) (Ng := ["_law_ask", "_law_e"]) (hcc.sc kp1.sc) F__law_try.1 F__law_try.2.1 F__law_try.2.2 sc__law_try (fun cdv2 s2 H2 f2 cg2 tl hcc2 hr2 act => dv__law_try G F__law_field f2 tl cdv2 s2 H2 cg2 hcc2 (hr2.mono (by omega)) act) (pure__law_try xnames) (acts_blk ha kp1 en) hr (pd_var 1))))))
theorem dv__law_cases (G : Gb P w K mg base cl) {f : Addr} (cdv : Value) (A : Around) (outer : List Env) (sh : Shared) (H : Hp) (E0 : XK) (c : Wd) (hcc : Cc cl tb c) (hr : Room 0 (A.deeper (PyProof.Rows.envOfC "_law_cases" (defScope s__law_cases) sh.heap.objs.size f cdv))) :
    PDSs c (cxOf (L2N.CX P w) P w K mg base ["_law_head", "_law_item", "_law_gust", "_law_good"] "_law_cases" (defScope s__law_cases) f cdv A outer sh H E0) (defBody s__law_cases) (t__law_cases) :=
    (pdss_cons (pds_set (i := 3) sc__law_cases.nd (pd_op opD_add (pd_op opD_add (pd_var 0) (pd_var 1)) (pd_var 2)))
      (pdss_one (pds_ret (pd_lst (pda_cons (pd_tup (pda_cons pd_str (pda_cons (pd_tup (pda_cons pd_int (pda_cons pd_str pda_nil))) pda_nil))) (pda_cons (pd_tup (pda_cons (pd_var 0) (pda_cons (pd_tup (pda_cons pd_int (pda_cons pd_str pda_nil))) pda_nil))) (pda_cons (pd_tup (pda_cons (pd_op opD_add (pd_var 0) (pd_var 1)) (pda_cons (pd_tup (pda_cons pd_int (pda_cons pd_str pda_nil))) pda_nil))) (pda_cons (pd_tup (pda_cons (pd_var 3) (pda_cons (pd_tup (pda_cons pd_int (pda_cons pd_str pda_nil))) pda_nil))) (pda_cons (pd_tup (pda_cons pd_str (pda_cons (pd_tup (pda_cons pd_int (pda_cons pd_str pda_nil))) pda_nil))) (pda_cons (pd_tup (pda_cons (pd_var 1) (pda_cons (pd_tup (pda_cons pd_int (pda_cons pd_str pda_nil))) pda_nil))) (pda_cons (pd_tup (pda_cons (pd_op opD_add (pd_var 0) (pd_var 2)) (pda_cons (pd_tup (pda_cons pd_int (pda_cons pd_str pda_nil))) pda_nil))) (pda_cons (pd_tup (pda_cons (pd_op opD_add (pd_var 0) pd_str) (pda_cons (pd_tup (pda_cons pd_int (pda_cons pd_str pda_nil))) pda_nil))) (pda_cons (pd_tup (pda_cons (pd_op opD_add (pd_var 0) (pd_var 0)) (pda_cons (pd_tup (pda_cons pd_int (pda_cons pd_str pda_nil))) pda_nil))) (pda_cons (pd_tup (pda_cons (pd_op opD_add (pd_var 3) (pd_var 1)) (pda_cons (pd_tup (pda_cons pd_int (pda_cons pd_str pda_nil))) pda_nil))) (pda_cons (pd_tup (pda_cons (pd_op opD_add (pd_var 3) pd_str) (pda_cons (pd_tup (pda_cons pd_int (pda_cons pd_str pda_nil))) pda_nil))) (pda_cons (pd_tup (pda_cons (pd_op opD_add (pd_var 3) pd_str) (pda_cons (pd_tup (pda_cons pd_int (pda_cons pd_str pda_nil))) pda_nil))) (pda_cons (pd_tup (pda_cons (pd_op opD_add (pd_var 3) pd_str) (pda_cons (pd_tup (pda_cons pd_int (pda_cons pd_str pda_nil))) pda_nil))) (pda_cons (pd_tup (pda_cons (pd_op opD_add (pd_var 3) pd_str) (pda_cons (pd_tup (pda_cons pd_int (pda_cons pd_str pda_nil))) pda_nil))) (pda_cons (pd_tup (pda_cons (pd_op opD_add (pd_var 3) pd_str) (pda_cons (pd_tup (pda_cons pd_int (pda_cons pd_str pda_nil))) pda_nil))) (pda_cons (pd_tup (pda_cons (pd_op opD_add (pd_var 3) pd_str) (pda_cons (pd_tup (pda_cons pd_int (pda_cons pd_str pda_nil))) pda_nil))) (pda_cons (pd_tup (pda_cons (pd_op opD_add (pd_var 0) pd_str) (pda_cons (pd_tup (pda_cons pd_int (pda_cons pd_str pda_nil))) pda_nil))) (pda_cons (pd_tup (pda_cons (pd_op opD_add (pd_var 0) pd_str) (pda_cons (pd_tup (pda_cons pd_int (pda_cons pd_str pda_nil))) pda_nil))) (pda_cons (pd_tup (pda_cons (pd_op opD_add (pd_var 0) pd_str) (pda_cons (pd_tup (pda_cons pd_int (pda_cons pd_str pda_nil))) pda_nil))) (pda_cons (pd_tup (pda_cons (pd_op opD_add (pd_var 0) pd_str) (pda_cons (pd_tup (pda_cons pd_int (pda_cons pd_str pda_nil))) pda_nil))) (pda_cons (pd_tup (pda_cons (pd_op opD_add (pd_var 0) pd_str) (pda_cons (pd_tup (pda_cons pd_int (pda_cons pd_str pda_nil))) pda_nil))) (pda_cons (pd_tup (pda_cons (pd_op opD_add (pd_var 0) pd_str) (pda_cons (pd_tup (pda_cons pd_int (pda_cons pd_str pda_nil))) pda_nil))) (pda_cons (pd_tup (pda_cons (pd_op opD_add (pd_var 0) pd_str) (pda_cons (pd_tup (pda_cons pd_int (pda_cons pd_str pda_nil))) pda_nil))) (pda_cons (pd_tup (pda_cons (pd_op opD_add (pd_var 0) pd_str) (pda_cons (pd_tup (pda_cons pd_int (pda_cons pd_str pda_nil))) pda_nil))) (pda_cons (pd_tup (pda_cons (pd_op opD_add (pd_op opD_add (pd_var 0) (pd_op opD_mulE (pd_var 1) pd_int)) (pd_var 1)) (pda_cons (pd_tup (pda_cons pd_int (pda_cons pd_str pda_nil))) pda_nil))) (pda_cons (pd_tup (pda_cons (pd_op opD_add (pd_op opD_add (pd_var 0) (pd_op opD_mulE (pd_var 1) pd_int)) pd_str) (pda_cons (pd_tup (pda_cons pd_int (pda_cons pd_str pda_nil))) pda_nil))) (pda_cons (pd_tup (pda_cons (pd_op opD_add (pd_op opD_add (pd_var 0) (pd_op opD_mulE (pd_var 1) pd_int)) pd_str) (pda_cons (pd_tup (pda_cons pd_int (pda_cons pd_str pda_nil))) pda_nil))) (pda_cons (pd_tup (pda_cons (pd_op opD_add (pd_op opD_add (pd_var 0) (pd_var 1)) pd_str) (pda_cons (pd_tup (pda_cons pd_int (pda_cons pd_str pda_nil))) pda_nil))) (pda_cons (pd_tup (pda_cons (pd_op opD_add (pd_op opD_add (pd_var 0) (pd_var 1)) pd_str) (pda_cons (pd_tup (pda_cons pd_int (pda_cons pd_str pda_nil))) pda_nil))) (pda_cons (pd_tup (pda_cons (pd_op opD_add (pd_op opD_add (pd_op opD_add (pd_var 0) (pd_var 1)) (pd_op opD_mulE (pd_var 2) pd_int)) (pd_var 2)) (pda_cons (pd_tup (pda_cons pd_int (pda_cons pd_str pda_nil))) pda_nil))) (pda_cons (pd_tup (pda_cons (pd_op opD_add (pd_op opD_add (pd_op opD_add (pd_var 0) (pd_var 1)) (pd_op opD_mulE (pd_var 2) pd_int)) pd_str) (pda_cons (pd_tup (pda_cons pd_int (pda_cons pd_str pda_nil))) pda_nil))) (pda_cons (pd_tup (pda_cons (pd_op opD_add (pd_op opD_add (pd_op opD_add (pd_var 0) (pd_var 1)) (pd_op opD_mulE (pd_var 2) pd_int)) (pd_var 1)) (pda_cons (pd_tup (pda_cons pd_int (pda_cons pd_str pda_nil))) pda_nil))) (pda_cons (pd_tup (pda_cons (pd_op opD_add (pd_op opD_add (pd_var 0) pd_str) (pd_var 2)) (pda_cons (pd_tup (pda_cons pd_int (pda_cons pd_str pda_nil))) pda_nil))) (pda_cons (pd_tup (pda_cons (pd_op opD_add (pd_var 0) pd_str) (pda_cons (pd_tup (pda_cons pd_int (pda_cons pd_str pda_nil))) pda_nil))) (pda_cons (pd_tup (pda_cons (pd_op opD_add (pd_op opD_add (pd_var 0) (pd_op opD_mulE pd_str pd_int)) pd_str) (pda_cons (pd_tup (pda_cons pd_int (pda_cons pd_str pda_nil))) pda_nil))) (pda_cons (pd_tup (pda_cons (pd_op opD_add (pd_op opD_add (pd_var 0) (pd_op opD_mulE pd_str pd_int)) pd_str) (pda_cons (pd_tup (pda_cons pd_int (pda_cons pd_str pda_nil))) pda_nil))) (pda_cons (pd_tup (pda_cons (pd_op opD_add (pd_var 0) pd_str) (pda_cons (pd_tup (pda_cons pd_int (pda_cons pd_str pda_nil))) pda_nil))) (pda_cons (pd_tup (pda_cons (pd_op opD_add (pd_op opD_add (pd_var 0) (pd_var 1)) pd_str) (pda_cons (pd_tup (pda_cons pd_int (pda_cons pd_str pda_nil))) pda_nil))) (pda_cons (pd_tup (pda_cons (pd_op opD_add (pd_op opD_add (pd_var 0) (pd_var 1)) pd_str) (pda_cons (pd_tup (pda_cons pd_int (pda_cons pd_str pda_nil))) pda_nil))) (pda_cons (pd_tup (pda_cons (pd_op opD_add (pd_op opD_add (pd_var 0) (pd_var 1)) pd_str) (pda_cons (pd_tup (pda_cons pd_int (pda_cons pd_str pda_nil))) pda_nil))) (pda_cons (pd_tup (pda_cons (pd_op opD_add (pd_op opD_add (pd_var 0) (pd_var 1)) pd_str) (pda_cons (pd_tup (pda_cons pd_int (pda_cons pd_str pda_nil))) pda_nil))) (pda_cons (pd_tup (pda_cons (pd_op opD_add (pd_op opD_add (pd_var 0) (pd_var 1)) pd_str) (pda_cons (pd_tup (pda_cons pd_int (pda_cons pd_str pda_nil))) pda_nil))) (pda_cons (pd_tup (pda_cons (pd_slice (pd_var 0) pdo_none (pdo_some (pd_neg pd_int))) (pda_cons (pd_tup (pda_cons pd_int (pda_cons pd_str pda_nil))) pda_nil))) (pda_cons (pd_tup (pda_cons (pd_op opD_add (pd_var 0) (pd_slice (pd_var 1) pdo_none (pdo_some (pd_neg pd_int)))) (pda_cons (pd_tup (pda_cons pd_int (pda_cons pd_str pda_nil))) pda_nil))) pda_nil))))))))))))))))))))))))))))))))))))))))))))))))
theorem ok__law_cases (G : Gb P w K mg base cl) {dvs : List V} {kws : List (Str × V)} {f : Addr} {fd : FuncData} (F : FunD K "_law_cases" "_law_cases" (defArgs s__law_cases) (defBody s__law_cases) (defScope s__law_cases) dvs kws f fd) : FnOk P w K mg base (L2N.CX P w) 1 f fd ["_law_head", "_law_item", "_law_gust"] (upX K cl tb sp__law_cases) :=
  fnX F sc__law_cases (t := fun _ => t__law_cases) (fun cdv A outer sh H E0 c E hcc hr tk => dv__law_cases G cdv A outer sh H E0 c hcc hr) pure__law_cases
theorem dv__law_heads (G : Gb P w K mg base cl) {f : Addr} (cdv : Value) (A : Around) (outer : List Env) (sh : Shared) (H : Hp) (E0 : XK) (c : Wd) (hcc : Cc cl tb c) (hr : Room 0 (A.deeper (PyProof.Rows.envOfC "_law_heads" (defScope s__law_heads) sh.heap.objs.size f cdv))) :
    PDSs c (cxOf (L2N.CX P w) P w K mg base [] "_law_heads" (defScope s__law_heads) f cdv A outer sh H E0) (defBody s__law_heads) (t__law_heads) :=
    (pdss_one (pds_ret (pd_lst (pda_cons pd_str (pda_cons pd_str (pda_cons pd_str (pda_cons pd_str (pda_cons pd_str (pda_cons pd_str (pda_cons pd_str (pda_cons pd_str (pda_cons pd_str (pda_cons pd_str (pda_cons pd_str (pda_cons pd_str (pda_cons pd_str (pda_cons pd_str (pda_cons pd_str (pda_cons pd_str (pda_cons pd_str pda_nil))))))))))))))))))))
theorem ok__law_heads (G : Gb P w K mg base cl) {dvs : List V} {kws : List (Str × V)} {f : Addr} {fd : FuncData} (F : FunD K "_law_heads" "_law_heads" (defArgs s__law_heads) (defBody s__law_heads) (defScope s__law_heads) dvs kws f fd) : FnOk P w K mg base (L2N.CX P w) 1 f fd [] (upX K cl tb sp__law_heads) :=
  fnX F sc__law_heads (t := fun _ => t__law_heads) (fun cdv A outer sh H E0 c E hcc hr tk => dv__law_heads G cdv A outer sh H E0 c hcc hr) pure__law_heads
theorem dv_law (G : Gb P w K mg base cl) {g__law_try : Addr} {fd__law_try : FuncData} {g__law_tries : Addr} {fd__law_tries : FuncData} (S_Chart_read_1 : Stc P w K mg base cl tb 6 "Chart" "read" 1 [] ["text"] (fun ds es => ds ++ es) sp_Chart_read) (F__law_bag : Fnd P w K mg base cl tb 1 "_law_bag" s__law_bag ["_law_script"] sp__law_bag) (F__law_cases : Fnd P w K mg base cl tb 1 "_law_cases" s__law_cases ["_law_head", "_law_item", "_law_gust"] sp__law_cases) (F__law_draw : Fnd P w K mg base cl tb 1 "_law_draw" s__law_draw ["_law_bag_here", "_law_many"] sp__law_draw) (F__law_heads : Fnd P w K mg base cl tb 1 "_law_heads" s__law_heads [] sp__law_heads) (F__law_pick : Fnd P w K mg base cl tb 2 "_law_pick" s__law_pick ["_law_bag_here", "_law_some"] sp__law_pick) (F__law_same : Fnd P w K mg base cl tb 8 "_law_same" s__law_same ["_law_found", "_law_due"] sp__law_same) (F__law_tries : FunD K "_law_tries" "_law_tries" (defArgs s__law_tries) (defBody s__law_tries) (defScope s__law_tries) [] [] g__law_tries fd__law_tries ∧ mg "_law_tries" = some (.ref g__law_tries) ∧ L2.Binds K fd__law_tries ["_law_asks"] []) (F__law_field : FndH P w K mg base cl 1 "_law_field" s__law_field ["_law_e"] (sp__law_field xnames)) (F__law_try : FunD K "_law_try" "_law_try" (defArgs s__law_try) (defBody s__law_try) (defScope s__law_try) [] [] g__law_try fd__law_try ∧ mg "_law_try" = some (.ref g__law_try) ∧ L2.Binds K fd__law_try ["_law_ask"] []) (F_read_parts : Fnd P w K mg base cl tb 4 "read_parts" s_read_parts ["text"] sp_read_parts) {cc Pt : Addr} (htb : (Pt, (PyProof.Rows.envOfC "law" (defScope s_law) 0 0 .none).qual ++ "<lambda>") ∈ tb) (hu : ∀ p ∈ tb, p.1 = Pt → p.2 = (PyProof.Rows.envOfC "law" (defScope s_law) 0 0 .none).qual ++ "<lambda>") (TB : TabB base mg cc Pt) {f : Addr} (cdv : Value) (hcode : cdv = .ref cc) (A : Around) (outer : List Env) (sh : Shared) (H : Hp) (E0 : XK) (c : Wd) (hcc : Cc cl tb c) (hr : Room 9 (A.deeper (PyProof.Rows.envOfC "law" (defScope s_law) sh.heap.objs.size f cdv))) :
    PDSs c (cxOf (L2N.CX P w) P w K mg base ["_law_script", "_law_bag_here", "_law_item", "_law_gust", "_law_k", "_law_head", "_law_some", "_law_text_z", "_law_due", "_law_behind", "_law_told", "_law_one", "_law_asks", "_law_odd"] "law" (defScope s_law) f cdv A outer sh H E0) (defBody s_law) (t_law xnames) :=
    (pdss_cons (pds_set (i := 1) sc_law.nd (pd_call hcc F__law_bag (hr.mono (by decide)) tk0 (pda_cons (pd_var 0) pda_nil)))
      (pdss_cons (pds_set (i := 2) sc_law.nd (pd_op opD_add (pd_op opD_add pd_str (pd_callTy str_E rfl G.b_str (by decide +kernel) (pda_cons (pd_call hcc F__law_draw (hr.mono (by decide)) tk0 (pda_cons (pd_var 1) (pda_cons pd_int pda_nil))) pda_nil))) pd_str))
      (pdss_cons (pds_set (i := 3) sc_law.nd (pd_op opD_add (pd_join pd_str (pd_op opD_add (pd_lst (pda_cons pd_str pda_nil)) (pd_lc (own := [("_law_k", 4)]) (us := [4]) rfl sc_law.nd (pdi_range1 G.b_range (pda_cons pd_int pda_nil)) (blkOk_by (N := ["_law_script", "_law_bag_here", "_law_item", "_law_gust", "_law_k", "_law_head", "_law_some", "_law_text_z", "_law_due", "_law_behind", "_law_told", "_law_one", "_law_asks", "_law_odd"]) (sc := defScope s_law) (own := [("_law_k", 4)]) (by decide +kernel)) (fun c1 sc1 _ _ _ _ _ => (pdg_name (i := 4) sc_law.nd)) (fun c1 sc1 _ _ _ _ _ => pdts_nil) (fun c1 sc1 _ _ _ _ _ => (pd_call (hcc.sc sc1) F__law_pick (hr.mono (by decide)) tk0 (pda_cons (pd_var 1) (pda_cons (pd_lst (pda_cons pd_str (pda_cons pd_str (pda_cons pd_str (pda_cons (pd_callTy str_E rfl G.b_str (by decide +kernel) (pda_cons (pd_call (hcc.sc sc1) F__law_draw (hr.mono (by decide)) tk0 (pda_cons (pd_var 1) (pda_cons pd_int pda_nil))) pda_nil)) pda_nil))))) pda_nil))))))) pd_str))
      (pdss_cons (pds_set (i := 5) sc_law.nd (pd_op opD_add (pd_op opD_add pd_str (pd_callTy str_E rfl G.b_str (by decide +kernel) (pda_cons (pd_op opD_add pd_int (pd_call hcc F__law_draw (hr.mono (by decide)) tk0 (pda_cons (pd_var 1) (pda_cons pd_int pda_nil)))) pda_nil))) pd_str))
      (pdss_cons (pds_set (i := 6) sc_law.nd (pd_call hcc F__law_cases (hr.mono (by decide)) tk0 (pda_cons (pd_var 5) (pda_cons (pd_var 2) (pda_cons (pd_var 3) pda_nil)))))
      (pdss_cons (pds_for (vs := [4]) (passes_of rfl) rfl (pdi_range1 G.b_range (pda_cons (pd_callB len_D rfl G.b_len PySem.boot_len (pda_cons (pd_var 6) pda_nil)) pda_nil)) (pdg_name (i := 4) sc_law.nd) (pdss_cons (pds_asg (vs := [7, 8]) (pd_ixE hr.units (pd_var 6) (pd_var 4)) (pdg_tup rfl (pdgs_cons (pdg_name (i := 7) sc_law.nd) (pdgs_cons (pdg_name (i := 8) sc_law.nd) pdgs_nil))))
      (pdss_cons (pds_if (pdt_not (pdt_val (pd_call hcc F__law_same (hr.mono (by decide)) tk0 (pda_cons (pd_lam (k := 7) (Ng := ["_law_ask", "_law_e"]) hcc htb hu F__law_try.1 F__law_try.2.1 F__law_try.2.2 sc__law_try (fun cdv2 s2 H2 f2 cg tl hcc2 hr2 act => dv__law_try G F__law_field f2 tl cdv2 s2 H2 cg hcc2 (hr2.mono (by decide)) act) (pure__law_try xnames) TB hcode (hr.mono (by decide)) (lamS_by (sc := defScope s_law) (by decide +kernel))
      (fun A2 o2 s2 H2 X2 f2 k2 cL E2 hcc2 tk2 hr2 => (pd_stat (ks := []) hcc2 S_Chart_read_1 (hr2.mono (by decide)) tk2 (pda_cons (pd_var 7) pda_nil) pdk_nil))) (pda_cons (pd_op opD_add (pd_tup (pda_cons pd_str (pda_cons pd_str pda_nil))) (pd_var 8)) pda_nil))))) (pdss_one (pds_ret pd_bl)) pdss_nil)
      (pdss_cons (pds_set (i := 9) sc_law.nd (pd_cmp (eq_flat hr.units) (pd_slice (pd_var 7) pdo_none (pdo_some (pd_op opD_add (pd_callB len_D rfl G.b_len PySem.boot_len (pda_cons (pd_op opD_add (pd_op opD_add (pd_var 5) (pd_var 2)) (pd_var 3)) pda_nil)) pd_int))) (pd_op opD_add (pd_op opD_add (pd_op opD_add (pd_var 5) (pd_var 2)) (pd_var 3)) pd_str)))
      (pdss_cons (pds_set (i := 10) sc_law.nd (pd_lamD (k := 7) (Ng := ["_law_ask", "_law_e"]) hcc htb hu F__law_try.1 F__law_try.2.1 F__law_try.2.2 sc__law_try (fun cdv2 s2 H2 f2 cg tl hcc2 hr2 act => dv__law_try G F__law_field f2 tl cdv2 s2 H2 cg hcc2 (hr2.mono (by decide)) act) (pure__law_try xnames) TB hcode (hr.mono (by decide)) (lamP_by (N := ["_law_script", "_law_bag_here", "_law_item", "_law_gust", "_law_k", "_law_head", "_law_some", "_law_text_z", "_law_due", "_law_behind", "_law_told", "_law_one", "_law_asks", "_law_odd"]) (sc := defScope s_law) (p := "_law_a") (by decide +kernel))
      (fun A2 o2 s2 H2 X2 f2 k2 cL E2 hcc2 tk2 hr2 => (pd_fz (pd_call hcc2 F_read_parts (hr2.mono (by decide)) tk2 (pda_cons (pd_var 7) pda_nil)))) pe_int))
      (pdss_one (pds_if (PW.pt (pdw_or (PW.pt (pdw_and (pdt_val (pd_var 9)) (pdw_one (pdt_not (pdt_val (pd_call hcc F__law_same (hr.mono (by decide)) tk0 (pda_cons (pd_ixE hr.units (pd_ixE hr.units (pd_var 10) pd_int) pd_int) (pda_cons pd_int pda_nil)))))))) (pdw_one (PW.pt (pdw_and (pdt_not (pdt_val (pd_var 9))) (pdw_one (pdt_not (pdt_val (pd_call hcc F__law_same (hr.mono (by decide)) tk0 (pda_cons (pd_var 10) (pda_cons (pd_op opD_add (pd_tup (pda_cons pd_str (pda_cons pd_str pda_nil))) (pd_var 8)) pda_nil))))))))))) (pdss_one (pds_ret pd_bl)) pdss_nil)))))))
      (pdss_cons (pds_for (vs := [11]) (passes_of rfl) rfl (pdi_any (pd_call0 hcc F__law_heads (hr.mono (by decide)) tk0)) (pdg_name (i := 11) sc_law.nd) (pdss_asks (ls := [⟨_, _, _, none⟩, ⟨_, _, _, some 0⟩]) hcc sc_law.nd (pa_cons (pe_lamV (l := ⟨_, _, _, none⟩) TB hcode htb hu (fun ok => (lamS_by (sc := defScope s_law) (by decide +kernel)).has ok) rfl rfl) (pa_cons (pe_lamVD (l := ⟨_, _, _, some 0⟩) TB hcode htb hu (fun ok => (lamP_by (N := ["_law_script", "_law_bag_here", "_law_item", "_law_gust", "_law_k", "_law_head", "_law_some", "_law_text_z", "_law_due", "_law_behind", "_law_told", "_law_one", "_law_asks", "_law_odd"]) (sc := defScope s_law) (p := "_law_b") (by decide +kernel)).has ok) rfl pe_int rfl rfl) pa_nil)) (by decide) (fun c_fs1 fs1 hcc_fs1 okc_fs1 hls_fs1 =>
      (pdss_one (pds_if (pdt_not (pdt_val (pd_call hcc_fs1 F__law_same (hr.mono (by decide)) tk0 (pda_cons (pd_tries (k := 6) (Ng := ["_law_ask", "_law_e"]) (Nt := ["_law_asks", "_law_ask"]) (x := "_law_try") (st := s__law_try) (a := "_law_ask") (tLs := [(fun E2 => y_law_4 E2), (fun E2 => y_law_5 E2)]) hcc_fs1 okc_fs1 F__law_tries.1 F__law_tries.2.1 F__law_tries.2.2 sc__law_tries hls_fs1 ⟨_, _, rfl, lmOk_s (lamS_by (sc := defScope s_law) (by decide +kernel)),
      (fun A2 o2 s2 H2 X2 f2 k2 cL E2 hcc2 tk2 hr2 => (pd_stat (ks := []) hcc2 S_Chart_read_1 (hr2.mono (by decide)) tk2 (pda_cons (pd_op opD_add (pd_op opD_add (pd_var 11) (pd_var 2)) pd_str) pda_nil) pdk_nil)), ⟨_, _, rfl, lmOk_d (lamP_by (N := ["_law_script", "_law_bag_here", "_law_item", "_law_gust", "_law_k", "_law_head", "_law_some", "_law_text_z", "_law_due", "_law_behind", "_law_told", "_law_one", "_law_asks", "_law_odd"]) (sc := defScope s_law) (p := "_law_b") (by decide +kernel)),
      (fun A2 o2 s2 H2 X2 f2 k2 cL E2 hcc2 tk2 hr2 => (pd_fz (pd_callK0 (ks := ["text"]) (m := 1) hcc2 Kw_read_parts_text.g (fun R a b => Kw_read_parts_text.rel R a b) (fun K w a b => Kw_read_parts_text.relL K w a b) bk_Kw_read_parts_text F_read_parts (hr2.mono (by decide)) tk2 (pdk_cons (pd_op opD_add (pd_op opD_add (pd_var 11) (pd_var 2)) pd_str) pdk_nil)))), rfl⟩⟩ (fun cdv2 s2 H2 cg acts hcc2 hr2 ha => dv__law_tries G F__law_try F__law_field cdv2 s2 H2 cg acts hcc2 hr2 ha) (pure__law_tries xnames) rfl (by first | exact Or.inl rfl | exact Or.inr (Or.inl rfl) | exact Or.inr (Or.inr rfl)) (by decide) (by decide) (hr.mono (by decide)) (pd_var 12)) (pda_cons (pd_op opD_mulE (pd_lst (pda_cons (pd_tup (pda_cons pd_str (pda_cons pd_str (pda_cons pd_int (pda_cons pd_str pda_nil))))) pda_nil)) pd_int) pda_nil))))) (pdss_one (pds_ret pd_bl)) pdss_nil)))))
      (pdss_cons (pds_set (i := 13) sc_law.nd (pd_call hcc F__law_pick (hr.mono (by decide)) tk0 (pda_cons (pd_var 1) (pda_cons (pd_lst (pda_cons pd_non (pda_cons pd_int (pda_cons pd_bl (pda_cons (pd_lst (pda_cons (pd_var 5) pda_nil)) (pda_cons (pd_tup (pda_cons (pd_var 5) (pda_cons (pd_var 2) pda_nil))) (pda_cons (pd_lst (pda_cons pd_str pda_nil)) (pda_cons pd_int pda_nil)))))))) pda_nil))))
      (pdss_asks (ls := [⟨_, _, _, none⟩, ⟨_, _, _, some 0⟩]) hcc sc_law.nd (pa_cons (pe_lamV (l := ⟨_, _, _, none⟩) TB hcode htb hu (fun ok => (lamS_by (sc := defScope s_law) (by decide +kernel)).has ok) rfl rfl) (pa_cons (pe_lamVD (l := ⟨_, _, _, some 0⟩) TB hcode htb hu (fun ok => (lamP_by (N := ["_law_script", "_law_bag_here", "_law_item", "_law_gust", "_law_k", "_law_head", "_law_some", "_law_text_z", "_law_due", "_law_behind", "_law_told", "_law_one", "_law_asks", "_law_odd"]) (sc := defScope s_law) (p := "_law_c") (by decide +kernel)).has ok) rfl pe_int rfl rfl) pa_nil)) (by decide) (fun c_fs1 fs1 hcc_fs1 okc_fs1 hls_fs1 =>
      (pdss_cons (pds_if (pdt_not (pdt_val (pd_call hcc_fs1 F__law_same (hr.mono (by decide)) tk0 (pda_cons (pd_tries (k := 6) (Ng := ["_law_ask", "_law_e"]) (Nt := ["_law_asks", "_law_ask"]) (x := "_law_try") (st := s__law_try) (a := "_law_ask") (tLs := [(fun E2 => y_law_1 E2), (fun E2 => y_law_2 E2)]) hcc_fs1 okc_fs1 F__law_tries.1 F__law_tries.2.1 F__law_tries.2.2 sc__law_tries hls_fs1 ⟨_, _, rfl, lmOk_s (lamS_by (sc := defScope s_law) (by decide +kernel)),
      (fun A2 o2 s2 H2 X2 f2 k2 cL E2 hcc2 tk2 hr2 => (pd_stat (ks := []) hcc2 S_Chart_read_1 (hr2.mono (by decide)) tk2 (pda_cons (pd_var 13) pda_nil) pdk_nil)), ⟨_, _, rfl, lmOk_d (lamP_by (N := ["_law_script", "_law_bag_here", "_law_item", "_law_gust", "_law_k", "_law_head", "_law_some", "_law_text_z", "_law_due", "_law_behind", "_law_told", "_law_one", "_law_asks", "_law_odd"]) (sc := defScope s_law) (p := "_law_c") (by decide +kernel)),
      (fun A2 o2 s2 H2 X2 f2 k2 cL E2 hcc2 tk2 hr2 => (pd_fz (pd_call hcc2 F_read_parts (hr2.mono (by decide)) tk2 (pda_cons (pd_var 13) pda_nil)))), rfl⟩⟩ (fun cdv2 s2 H2 cg acts hcc2 hr2 ha => dv__law_tries G F__law_try F__law_field cdv2 s2 H2 cg acts hcc2 hr2 ha) (pure__law_tries xnames) rfl (by first | exact Or.inl rfl | exact Or.inr (Or.inl rfl) | exact Or.inr (Or.inr rfl)) (by decide) (by decide) (hr.mono (by decide)) (pd_var 12)) (pda_cons (pd_op opD_mulE (pd_lst (pda_cons (pd_tup (pda_cons pd_str (pda_cons pd_str (pda_cons pd_int (pda_cons pd_str pda_nil))))) pda_nil)) pd_int) pda_nil))))) (pdss_one (pds_ret pd_bl)) pdss_nil)
      (pdss_one (pds_ret (pd_and (pd_cmp (eq_flat hr.units) (pd_fld hcc_fs1.cl G.cls_Chart (pd_stat (ks := []) hcc_fs1 S_Chart_read_1 (hr.mono (by decide)) tk0 (pda_cons (pd_op opD_add (pd_op opD_add (pd_op opD_add (pd_var 5) (pd_var 2)) (pd_op opD_mulE (pd_var 3) pd_int)) pd_str) pda_nil) pdk_nil)) pd_int) (pd_one (pd_cmp (eq_flat hr.units) (pd_fld hcc_fs1.cl G.cls_Chart (pd_stat (ks := []) hcc_fs1 S_Chart_read_1 (hr.mono (by decide)) tk0 (pda_cons (pd_op opD_add (pd_op opD_add (pd_var 5) (pd_op opD_mulE (pd_var 2) pd_int)) pd_str) pda_nil) pdk_nil)) pd_int))))))))))))))))
theorem ok_law (G : Gb P w K mg base cl) {g__law_try : Addr} {fd__law_try : FuncData} {g__law_tries : Addr} {fd__law_tries : FuncData} (S_Chart_read_1 : Stc P w K mg base cl tb 6 "Chart" "read" 1 [] ["text"] (fun ds es => ds ++ es) sp_Chart_read) (F__law_bag : Fnd P w K mg base cl tb 1 "_law_bag" s__law_bag ["_law_script"] sp__law_bag) (F__law_cases : Fnd P w K mg base cl tb 1 "_law_cases" s__law_cases ["_law_head", "_law_item", "_law_gust"] sp__law_cases) (F__law_draw : Fnd P w K mg base cl tb 1 "_law_draw" s__law_draw ["_law_bag_here", "_law_many"] sp__law_draw) (F__law_heads : Fnd P w K mg base cl tb 1 "_law_heads" s__law_heads [] sp__law_heads) (F__law_pick : Fnd P w K mg base cl tb 2 "_law_pick" s__law_pick ["_law_bag_here", "_law_some"] sp__law_pick) (F__law_same : Fnd P w K mg base cl tb 8 "_law_same" s__law_same ["_law_found", "_law_due"] sp__law_same) (F__law_tries : FunD K "_law_tries" "_law_tries" (defArgs s__law_tries) (defBody s__law_tries) (defScope s__law_tries) [] [] g__law_tries fd__law_tries ∧ mg "_law_tries" = some (.ref g__law_tries) ∧ L2.Binds K fd__law_tries ["_law_asks"] []) (F__law_field : FndH P w K mg base cl 1 "_law_field" s__law_field ["_law_e"] (sp__law_field xnames)) (F__law_try : FunD K "_law_try" "_law_try" (defArgs s__law_try) (defBody s__law_try) (defScope s__law_try) [] [] g__law_try fd__law_try ∧ mg "_law_try" = some (.ref g__law_try) ∧ L2.Binds K fd__law_try ["_law_ask"] []) (F_read_parts : Fnd P w K mg base cl tb 4 "read_parts" s_read_parts ["text"] sp_read_parts) {Pt : Addr} (htb : (Pt, (PyProof.Rows.envOfC "law" (defScope s_law) 0 0 .none).qual ++ "<lambda>") ∈ tb) (hu : ∀ p ∈ tb, p.1 = Pt → p.2 = (PyProof.Rows.envOfC "law" (defScope s_law) 0 0 .none).qual ++ "<lambda>") (TB : TabB base mg (He.codeOf K ("law", none)) Pt) {fd : FuncData} (F : FunD K "law" "law" (defArgs s_law) (defBody s_law) (defScope s_law) [] [] (He.fAd K ("law", none)) fd) : FnOk P w K mg base (L2N.CX P w) 10 (He.fAd K ("law", none)) fd ["_law_script"] (upX K cl tb sp_law) :=
  fnXc (p := ("law", none)) F sc_law (t := fun _ => t_law xnames) (fun cdv A outer sh H E0 c E hcode hcc hr tk => dv_law G S_Chart_read_1 F__law_bag F__law_cases F__law_draw F__law_heads F__law_pick F__law_same F__law_tries F__law_field F__law_try F_read_parts htb hu TB cdv hcode A outer sh H E0 c hcc hr) pure_law
theorem dv_Chart___init__ (G : Gb P w K mg base cl) (F_check_rows : Fnd P w K mg base cl tb 3 "check_rows" s_check_rows ["rows"] sp_check_rows) (F_check_winds : Fnd P w K mg base cl tb 3 "check_winds" s_check_winds ["winds"] sp_check_winds) (F_is_number : Fnd P w K mg base cl tb 1 "is_number" s_is_number ["value", "least", "most"] sp_is_number) {f : Addr} (cdv : Value) (A : Around) (outer : List Env) (sh : Shared) (H : Hp) (E0 : XK) (c : Wd) (E : DXK) (hcc : Cc cl tb c) (hr : Room 3 (A.deeper (PyProof.Rows.envOfC "Chart.__init__" (defScope s_Chart___init__) sh.heap.objs.size f cdv))) (tk : Tk c (cxOf (L2N.CX P w) P w K mg base ["self", "rows", "winds", "top", "row", "items", "column", "drag"] "Chart.__init__" (defScope s_Chart___init__) f cdv A outer sh H E0) E) :
    PDSs c (cxOf (L2N.CX P w) P w K mg base ["self", "rows", "winds", "top", "row", "items", "column", "drag"] "Chart.__init__" (defScope s_Chart___init__) f cdv A outer sh H E0) (defBody s_Chart___init__) (t_Chart___init__ E) :=
    (pdss_cons (pds_expr (pd_call hcc F_check_rows (hr.mono (by decide)) tk (pda_cons (pd_var 1) pda_nil)))
      (pdss_cons (pds_expr (pd_call hcc F_check_winds (hr.mono (by decide)) tk (pda_cons (pd_var 2) pda_nil)))
      (pdss_cons (pds_if (pdt_not (pdt_val (pd_call hcc F_is_number (hr.mono (by decide)) tk0 (pda_cons (pd_var 3) (pda_cons pd_int (pda_cons (pd_globC G.c_GREATEST_charts) pda_nil)))))) (pdss_one (pds_raise hcc.cl rfl G.x_InvalidTop (hr.mono (by decide)) tk (pda_cons (pd_var 3) pda_nil))) pdss_nil)
      (pdss_cons (pds_setF hcc.cl G.cls_Chart (pd_var 0) (pd_var 3))
      (pdss_cons (pds_setF hcc.cl G.cls_Chart (pd_var 0) (pd_callB len_D rfl G.b_len PySem.boot_len (pda_cons (pd_var 2) pda_nil)))
      (pdss_cons (pds_setF hcc.cl G.cls_Chart (pd_var 0) (pd_lc (own := [("row", 4)]) (us := [4]) rfl sc_Chart___init__.nd (pdi_any (pd_var 1)) (blkOk_by (N := ["self", "rows", "winds", "top", "row", "items", "column", "drag"]) (sc := defScope s_Chart___init__) (own := [("row", 4)]) (by decide +kernel)) (fun c1 sc1 _ _ _ _ _ => (pdg_name (i := 4) sc_Chart___init__.nd)) (fun c1 sc1 _ _ _ _ _ => pdts_nil) (fun c1 sc1 _ _ _ _ _ => (pd_callTy lst_D rfl G.b_list (by decide +kernel) (pda_cons (pd_var 4) pda_nil)))))
      (pdss_cons (pds_setF hcc.cl G.cls_Chart (pd_var 0) (pd_callTy lst_D rfl G.b_list (by decide +kernel) (pda_cons (pd_var 2) pda_nil)))
      (pdss_cons (pds_setF hcc.cl G.cls_Chart (pd_var 0) pd_dictT)
      (pdss_one (pds_for (vs := [4, 5]) (passes_of rfl) rfl (pdi_enT G.b_enumerate (pda_cons (pd_fld hcc.cl G.cls_Chart (pd_var 0)) pda_nil)) (pdg_tup rfl (pdgs_cons (pdg_name (i := 4) sc_Chart___init__.nd) (pdgs_cons (pdg_name (i := 5) sc_Chart___init__.nd) pdgs_nil))) (pdss_one (pds_for (vs := [6, 7]) (passes_of rfl) rfl (pdi_enT G.b_enumerate (pda_cons (pd_var 5) pda_nil)) (pdg_tup rfl (pdgs_cons (pdg_name (i := 6) sc_Chart___init__.nd) (pdgs_cons (pdg_name (i := 7) sc_Chart___init__.nd) pdgs_nil))) (pdss_one (pds_if (pdt_cmp opD_isnot (pd_var 7) pd_non) (pdss_one (pds_asg (vs := []) (pd_var 7) (pdg_ixP hr.units (pd_fld hcc.cl G.cls_Chart (pd_var 0)) (pda_cons (pd_var 4) (pda_cons (pd_var 6) pda_nil))))) pdss_nil))))))))))))))
theorem ok_Chart___init__ (G : Gb P w K mg base cl) (F_check_rows : Fnd P w K mg base cl tb 3 "check_rows" s_check_rows ["rows"] sp_check_rows) (F_check_winds : Fnd P w K mg base cl tb 3 "check_winds" s_check_winds ["winds"] sp_check_winds) (F_is_number : Fnd P w K mg base cl tb 1 "is_number" s_is_number ["value", "least", "most"] sp_is_number) {dvs : List V} {kws : List (Str × V)} {f : Addr} {fd : FuncData} (F : FunD K "__init__" "Chart.__init__" (defArgs s_Chart___init__) (defBody s_Chart___init__) (defScope s_Chart___init__) dvs kws f fd) : FnOk P w K mg base (L2N.CX P w) 4 f fd ["self", "rows", "winds", "top"] (upX K cl tb sp_Chart___init__) :=
  fnX F sc_Chart___init__ (t := fun E => t_Chart___init__ E) (fun cdv A outer sh H E0 c E hcc hr tk => dv_Chart___init__ G F_check_rows F_check_winds F_is_number cdv A outer sh H E0 c E hcc hr tk) pure_Chart___init__
theorem dv_Chart_read (G : Gb P w K mg base cl) (M_Chart_2_top : Mkr P w K mg base cl tb 4 "Chart" 2 ["top"] ["self", "rows", "winds", "top"] (fun ds es => ds ++ es) sp_Chart___init__) (F_read_parts : Fnd P w K mg base cl tb 4 "read_parts" s_read_parts ["text"] sp_read_parts) {f : Addr} (cdv : Value) (A : Around) (outer : List Env) (sh : Shared) (H : Hp) (E0 : XK) (c : Wd) (E : DXK) (hcc : Cc cl tb c) (hr : Room 5 (A.deeper (PyProof.Rows.envOfC "Chart.read" (defScope s_Chart_read) sh.heap.objs.size f cdv))) (tk : Tk c (cxOf (L2N.CX P w) P w K mg base ["text", "rows", "winds", "top", "many"] "Chart.read" (defScope s_Chart_read) f cdv A outer sh H E0) E) :
    PDSs c (cxOf (L2N.CX P w) P w K mg base ["text", "rows", "winds", "top", "many"] "Chart.read" (defScope s_Chart_read) f cdv A outer sh H E0) (defBody s_Chart_read) (t_Chart_read E) :=
    (pdss_cons (pds_asg (vs := [1, 2, 3, 4]) (pd_fz (pd_call hcc F_read_parts (hr.mono (by decide)) tk (pda_cons (pd_var 0) pda_nil))) (pdg_tup rfl (pdgs_cons (pdg_name (i := 1) sc_Chart_read.nd) (pdgs_cons (pdg_name (i := 2) sc_Chart_read.nd) (pdgs_cons (pdg_name (i := 3) sc_Chart_read.nd) (pdgs_cons (pdg_name (i := 4) sc_Chart_read.nd) pdgs_nil))))))
      (pdss_cons (pds_if (PW.pt (pdw_or (pdt_cmp (ne_flat hr.units) (pd_count (pd_var 0) pd_str) (pd_var 4)) (pdw_one (pdt_not (pdt_val (pd_endswith (pd_var 0) pd_str)))))) (pdss_one (pds_raise hcc.cl rfl G.x_InvalidText (hr.mono (by decide)) tk (pda_cons (pd_var 4) (pda_cons pd_str pda_nil)))) pdss_nil)
      (pdss_one (pds_ret (pd_fz (pd_makeK (ks := ["top"]) hcc M_Chart_2_top (hr.mono (by decide)) tk (pda_cons (pd_var 1) (pda_cons (pd_var 2) pda_nil)) (pdk_cons (pd_var 3) pdk_nil)))))))
theorem ok_Chart_read (G : Gb P w K mg base cl) (M_Chart_2_top : Mkr P w K mg base cl tb 4 "Chart" 2 ["top"] ["self", "rows", "winds", "top"] (fun ds es => ds ++ es) sp_Chart___init__) (F_read_parts : Fnd P w K mg base cl tb 4 "read_parts" s_read_parts ["text"] sp_read_parts) {dvs : List V} {kws : List (Str × V)} {f : Addr} {fd : FuncData} (F : FunD K "read" "Chart.read" (defArgs s_Chart_read) (defBody s_Chart_read) (defScope s_Chart_read) dvs kws f fd) : FnOk P w K mg base (L2N.CX P w) 6 f fd ["text"] (upX K cl tb sp_Chart_read) :=
  fnX F sc_Chart_read (t := fun E => t_Chart_read E) (fun cdv A outer sh H E0 c E hcc hr tk => dv_Chart_read G M_Chart_2_top F_read_parts cdv A outer sh H E0 c E hcc hr tk) pure_Chart_read
end
end K08
/-! The head and the end. Printed by a program of mine. -/
namespace K08
open PySem PySem.Spec PyProof.Rows L2 DL HS LamX
def d_is_number : He.DefD := ⟨("is_number", none), "is_number", "is_number", defArgs s_is_number, defBody s_is_number, defScope s_is_number, [], []⟩
def d_number_in : He.DefD := ⟨("number_in", none), "number_in", "number_in", defArgs s_number_in, defBody s_number_in, defScope s_number_in, [], []⟩
def d_items_in : He.DefD := ⟨("items_in", none), "items_in", "items_in", defArgs s_items_in, defBody s_items_in, defScope s_items_in, [], []⟩
def d_has_water : He.DefD := ⟨("has_water", none), "has_water", "has_water", defArgs s_has_water, defBody s_has_water, defScope s_has_water, [], []⟩
def d_read_top : He.DefD := ⟨("read_top", none), "read_top", "read_top", defArgs s_read_top, defBody s_read_top, defScope s_read_top, [], []⟩
def d_read_row : He.DefD := ⟨("read_row", none), "read_row", "read_row", defArgs s_read_row, defBody s_read_row, defScope s_read_row, [], []⟩
def d_read_wind : He.DefD := ⟨("read_wind", none), "read_wind", "read_wind", defArgs s_read_wind, defBody s_read_wind, defScope s_read_wind, [], []⟩
def d_read_parts : He.DefD := ⟨("read_parts", none), "read_parts", "read_parts", defArgs s_read_parts, defBody s_read_parts, defScope s_read_parts, [], []⟩
def d_is_wind : He.DefD := ⟨("is_wind", none), "is_wind", "is_wind", defArgs s_is_wind, defBody s_is_wind, defScope s_is_wind, [], []⟩
def d_is_listed : He.DefD := ⟨("is_listed", none), "is_listed", "is_listed", defArgs s_is_listed, defBody s_is_listed, defScope s_is_listed, [], []⟩
def d_check_rows : He.DefD := ⟨("check_rows", none), "check_rows", "check_rows", defArgs s_check_rows, defBody s_check_rows, defScope s_check_rows, [], []⟩
def d_check_winds : He.DefD := ⟨("check_winds", none), "check_winds", "check_winds", defArgs s_check_winds, defBody s_check_winds, defScope s_check_winds, [], []⟩
def d__law_bag : He.DefD := ⟨("_law_bag", none), "_law_bag", "_law_bag", defArgs s__law_bag, defBody s__law_bag, defScope s__law_bag, [], []⟩
def d__law_draw : He.DefD := ⟨("_law_draw", none), "_law_draw", "_law_draw", defArgs s__law_draw, defBody s__law_draw, defScope s__law_draw, [], []⟩
def d__law_pick : He.DefD := ⟨("_law_pick", none), "_law_pick", "_law_pick", defArgs s__law_pick, defBody s__law_pick, defScope s__law_pick, [], []⟩
def d__law_same : He.DefD := ⟨("_law_same", none), "_law_same", "_law_same", defArgs s__law_same, defBody s__law_same, defScope s__law_same, [], []⟩
def d__law_field : He.DefD := ⟨("_law_field", none), "_law_field", "_law_field", defArgs s__law_field, defBody s__law_field, defScope s__law_field, [], []⟩
def d__law_try : He.DefD := ⟨("_law_try", none), "_law_try", "_law_try", defArgs s__law_try, defBody s__law_try, defScope s__law_try, [], []⟩
def d__law_tries : He.DefD := ⟨("_law_tries", none), "_law_tries", "_law_tries", defArgs s__law_tries, defBody s__law_tries, defScope s__law_tries, [], []⟩
def d__law_cases : He.DefD := ⟨("_law_cases", none), "_law_cases", "_law_cases", defArgs s__law_cases, defBody s__law_cases, defScope s__law_cases, [], []⟩
def d__law_heads : He.DefD := ⟨("_law_heads", none), "_law_heads", "_law_heads", defArgs s__law_heads, defBody s__law_heads, defScope s__law_heads, [], []⟩
def d_law : He.DefD := ⟨("law", none), "law", "law", defArgs s_law, defBody s_law, defScope s_law, [], []⟩
def d_Chart___init__ : He.DefD := ⟨("Chart", some "__init__"), "__init__", "Chart.__init__", defArgs s_Chart___init__, defBody s_Chart___init__, defScope s_Chart___init__, [.adr (He.dflAt ("Chart", some "__init__") 0)], [("top", .int 9)]⟩
def d_Chart_read : He.DefD := ⟨("Chart", some "read"), "read", "Chart.read", defArgs s_Chart_read, defBody s_Chart_read, defScope s_Chart_read, [], []⟩
def di_InvalidChart : He.DefD := ⟨("InvalidChart", some "__init__"), "__init__", "InvalidChart.__init__", defArgs si_InvalidChart, defBody si_InvalidChart, defScope si_InvalidChart, [], []⟩
def di_InvalidText : He.DefD := ⟨("InvalidText", some "__init__"), "__init__", "InvalidText.__init__", defArgs si_InvalidText, defBody si_InvalidText, defScope si_InvalidText, [], []⟩
def di_InvalidTop : He.DefD := ⟨("InvalidTop", some "__init__"), "__init__", "InvalidTop.__init__", defArgs si_InvalidTop, defBody si_InvalidTop, defScope si_InvalidTop, [], []⟩
def di_InvalidWind : He.DefD := ⟨("InvalidWind", some "__init__"), "__init__", "InvalidWind.__init__", defArgs si_InvalidWind, defBody si_InvalidWind, defScope si_InvalidWind, [], []⟩
def fnl : List He.DefD := [d_is_number, d_number_in, d_items_in, d_has_water, d_read_top, d_read_row, d_read_wind, d_read_parts, d_is_wind, d_is_listed, d_check_rows, d_check_winds, d__law_bag, d__law_draw, d__law_pick, d__law_same, d__law_field, d__law_try, d__law_tries, d__law_cases, d__law_heads, d_law, d_Chart___init__, di_InvalidChart, di_InvalidText, di_InvalidTop, di_InvalidWind]
def sdl : List SD := [(("Chart", "read"), d_Chart_read)]
def fal : List He.Fa := [.glo "is_number", .glo "number_in", .glo "items_in", .glo "has_water", .glo "read_top", .glo "read_row", .glo "read_wind", .glo "read_parts", .glo "is_wind", .glo "is_listed", .glo "check_rows", .glo "check_winds", .glo "_law_bag", .glo "_law_draw", .glo "_law_pick", .glo "_law_same", .glo "_law_field", .glo "_law_try", .glo "_law_tries", .glo "_law_cases", .glo "_law_heads", .glo "law", .glo "InvalidChart", .glo "InvalidText", .glo "InvalidTop", .glo "InvalidWind", .glo "SkyError", .glo "Missing", .glo "Chart", .cls "Chart", .noat "Chart" "top", .noat "Chart" "last", .noat "Chart" "held_rows", .noat "Chart" "held_winds", .noat "Chart" "drags", .mkr "Chart", .free "all", .free "any", .free "bool", .free "enumerate", .free "int", .free "isinstance", .free "len", .free "list", .free "range", .free "str", .free "tuple", .free "zip"]
def tsl : List He.Tab := []
def lml : List ((Str × Option Str) × Str) := [(("law", none), ((PyProof.Rows.envOfC "law" (defScope s_law) 0 0 .none).qual ++ "<lambda>"))]
def exl : PySem.W.Frag → List Bool := fun K => [gcB K "DIGITS" (.str "0123456789"), gcB K "DIRECTIONS" (.tup [(.str "stay"), (.str "north"), (.str "east"), (.str "south"), (.str "west")]), gcB K "GREATEST_charts" (.int 99), gcB K "GREATEST_charttexts" (.int 99), gcB K "MOST_DIGITS" (.int 9), gcB K "MOST_ITEMS" (.int 6), gcB K "MOST_ROWS" (.int 6), gcB K "MOST_TOLL" (.int 99), gcB K "MOST_WINDS" (.int 8), gcB K "TOLLS" (.int 5), oexB K (He.ga K "InvalidChart"), iniB K (He.ga K "InvalidChart"), noB K (He.ga K "InvalidChart") ["code", "row", "column"], oexB K (He.ga K "InvalidText"), iniB K (He.ga K "InvalidText"), noB K (He.ga K "InvalidText") ["code", "line", "why"], oexB K (He.ga K "InvalidTop"), iniB K (He.ga K "InvalidTop"), noB K (He.ga K "InvalidTop") ["code", "value"], oexB K (He.ga K "InvalidWind"), iniB K (He.ga K "InvalidWind"), noB K (He.ga K "InvalidWind") ["code", "at"], creadB K (He.ga K "Chart"), cconB K (He.ga K "Chart") "MOST_HOURS" (.int 8), cconB K (He.ga K "Chart") "MOST_ROWS" (.int 6), smB K (He.ga K "Chart") "read", (xnames.all fun n => decide (PySem.W.exmAny K (.ref (He.ga K n)) [.ref (He.ga K "SkyError"), .ref (He.ga K "Missing")] = some true)), (xnames.all fun n => xfB K (He.ga K n)), (xnames.all fun n => noB K (He.ga K n) xfields), decide ((lml.map fun p => (He.cT K p.1).2).Nodup)]
def exb : PySem.W.Frag → Bool := fun K => (exl K).all id
theorem exb_at {K : PySem.W.Frag} (h : exb K = true) (i : Nat) {b : Bool} (e : (exl K)[i]? = some b) : b = true := by
  have := List.all_eq_true.mp h b (List.mem_of_getElem? e)
  exact this
abbrev R : PySem.W.OpenRow := PySem.W.OpenLaw.row PySem.Challenge.rw_highestsky_k08_chart_texts_refused_by_ha
abbrev hk : PySem.W.Hook := hookYA 5 fal fnl tsl (lml.map (·.1)) sdl exb
def ob (s : PySem.W.SharedT) : AlY := obsYA 5 fal fnl tsl (lml.map (·.1)) sdl exb (HandSHeadRun.getT s)
theorem ob_eq (s : PySem.W.SharedT) : ob s = hk.obs s.abs := obsYA_eq (HandSHeadRun.getT_eq s)
def loo : List Str := (["_wall", "SkyError", "Missing", "InvalidChart", "InvalidWind", "InvalidTop", "InvalidText", "OnLand", "DIGITS", "MOST_DIGITS", "LAST_INDEX", "LAST_HOUR", "is_number", "is_cell", "is_place", "number_in", "MOST_ITEMS", "MOST_ROWS", "MOST_WINDS", "TOLLS", "GREATEST_charttexts", "items_text", "chart_rows_text", "items_in", "has_water", "read_top", "read_row", "read_wind", "read_parts", "DIRECTIONS"] : List Str) ++ (["MOST_TOLL", "is_wind", "GREATEST_charts", "is_listed", "check_rows", "check_winds", "Chart", "_law_bag", "_law_draw", "_law_pick", "_law_same", "_law_field", "_law_try", "_law_tries", "_law_cases", "_law_heads"] : List Str)
theorem run0f (w : World) : HandSHeadRun.RunEq R (PySem.W.view R.prog [52]) hk ob 20000 loo (w.withFollow "special-get-raises" false) := by
  intro os; kernel_rfl
theorem run0t (w : World) : HandSHeadRun.RunEq R (PySem.W.view R.prog [52]) hk ob 20000 loo (w.withFollow "special-get-raises" true) := by
  intro os; kernel_rfl
theorem run0 (b : Bool) (w : World) : HandSHeadRun.RunEq R (PySem.W.view R.prog [52]) hk ob 20000 loo (w.withFollow "special-get-raises" b) := match b with | false => run0f w | true => run0t w
theorem run (w : World) : HandSHeadRun.RunEq R (PySem.W.view R.prog [52]) hk ob 20000 loo w := by
  have := run0 (w.params.followText "special-get-raises") w
  rwa [World.withFollow_self] at this
theorem law_sp : ∀ (ns : List Int) (M : Mu), ns.length ≤ 63 → M = (fun _ => none) → sp_law [.scr ns] M (fun d _ => d = .bl true) DX0 := fun ns M hl hM => ⟨ns, rfl, hl, hM, fun _ => rfl⟩
theorem facts {w : World} {K : PySem.W.Frag} {h : Heap} {mg : Str → Option Value} {f : Addr} (X : K.In h) (G : h.Ns mainGlobals mg) (hfa : mg ("law" : Str) = some (.ref f)) (cy : SaysY fal fnl tsl (lml.map (·.1)) sdl exb w h K) :
    LawAtS PySem.Challenge.rw_highestsky_k08_chart_texts_refused_by_ha w K (L2N.CX R.prog w) 10 63 "_law_script" mg f h := by
  have c := cy.x
  have cm : exb K = true := (He.ba c.more).1
  have cd := c.t.d
  obtain ⟨fd_is_number, f_is_number⟩ := cd.def_ 0 (d := d_is_number) rfl
  have b_is_number := f_is_number.bindsN (ps := ["value", "least", "most"]) bn_is_number
  have m_is_number := He.glo_ok X G (cd.fact 0 (f := .glo "is_number") rfl)
  obtain ⟨fd_number_in, f_number_in⟩ := cd.def_ 1 (d := d_number_in) rfl
  have b_number_in := f_number_in.bindsN (ps := ["text"]) bn_number_in
  have m_number_in := He.glo_ok X G (cd.fact 1 (f := .glo "number_in") rfl)
  obtain ⟨fd_items_in, f_items_in⟩ := cd.def_ 2 (d := d_items_in) rfl
  have b_items_in := f_items_in.bindsN (ps := ["words", "missing"]) bn_items_in
  have m_items_in := He.glo_ok X G (cd.fact 2 (f := .glo "items_in") rfl)
  obtain ⟨fd_has_water, f_has_water⟩ := cd.def_ 3 (d := d_has_water) rfl
  have b_has_water := f_has_water.bindsN (ps := ["rows"]) bn_has_water
  have m_has_water := He.glo_ok X G (cd.fact 3 (f := .glo "has_water") rfl)
  obtain ⟨fd_read_top, f_read_top⟩ := cd.def_ 4 (d := d_read_top) rfl
  have b_read_top := f_read_top.bindsN (ps := ["words"]) bn_read_top
  have m_read_top := He.glo_ok X G (cd.fact 4 (f := .glo "read_top") rfl)
  obtain ⟨fd_read_row, f_read_row⟩ := cd.def_ 5 (d := d_read_row) rfl
  have b_read_row := f_read_row.bindsN (ps := ["at", "words", "rows", "winds"]) bn_read_row
  have m_read_row := He.glo_ok X G (cd.fact 5 (f := .glo "read_row") rfl)
  obtain ⟨fd_read_wind, f_read_wind⟩ := cd.def_ 6 (d := d_read_wind) rfl
  have b_read_wind := f_read_wind.bindsN (ps := ["at", "words", "rows", "winds"]) bn_read_wind
  have m_read_wind := He.glo_ok X G (cd.fact 6 (f := .glo "read_wind") rfl)
  obtain ⟨fd_read_parts, f_read_parts⟩ := cd.def_ 7 (d := d_read_parts) rfl
  have b_read_parts := f_read_parts.bindsN (ps := ["text"]) bn_read_parts
  have m_read_parts := He.glo_ok X G (cd.fact 7 (f := .glo "read_parts") rfl)
  obtain ⟨fd_is_wind, f_is_wind⟩ := cd.def_ 8 (d := d_is_wind) rfl
  have b_is_wind := f_is_wind.bindsN (ps := ["value"]) bn_is_wind
  have m_is_wind := He.glo_ok X G (cd.fact 8 (f := .glo "is_wind") rfl)
  obtain ⟨fd_is_listed, f_is_listed⟩ := cd.def_ 9 (d := d_is_listed) rfl
  have b_is_listed := f_is_listed.bindsN (ps := ["value", "least", "most"]) bn_is_listed
  have m_is_listed := He.glo_ok X G (cd.fact 9 (f := .glo "is_listed") rfl)
  obtain ⟨fd_check_rows, f_check_rows⟩ := cd.def_ 10 (d := d_check_rows) rfl
  have b_check_rows := f_check_rows.bindsN (ps := ["rows"]) bn_check_rows
  have m_check_rows := He.glo_ok X G (cd.fact 10 (f := .glo "check_rows") rfl)
  obtain ⟨fd_check_winds, f_check_winds⟩ := cd.def_ 11 (d := d_check_winds) rfl
  have b_check_winds := f_check_winds.bindsN (ps := ["winds"]) bn_check_winds
  have m_check_winds := He.glo_ok X G (cd.fact 11 (f := .glo "check_winds") rfl)
  obtain ⟨fd__law_bag, f__law_bag⟩ := cd.def_ 12 (d := d__law_bag) rfl
  have b__law_bag := f__law_bag.bindsN (ps := ["_law_script"]) bn__law_bag
  have m__law_bag := He.glo_ok X G (cd.fact 12 (f := .glo "_law_bag") rfl)
  obtain ⟨fd__law_draw, f__law_draw⟩ := cd.def_ 13 (d := d__law_draw) rfl
  have b__law_draw := f__law_draw.bindsN (ps := ["_law_bag_here", "_law_many"]) bn__law_draw
  have m__law_draw := He.glo_ok X G (cd.fact 13 (f := .glo "_law_draw") rfl)
  obtain ⟨fd__law_pick, f__law_pick⟩ := cd.def_ 14 (d := d__law_pick) rfl
  have b__law_pick := f__law_pick.bindsN (ps := ["_law_bag_here", "_law_some"]) bn__law_pick
  have m__law_pick := He.glo_ok X G (cd.fact 14 (f := .glo "_law_pick") rfl)
  obtain ⟨fd__law_same, f__law_same⟩ := cd.def_ 15 (d := d__law_same) rfl
  have b__law_same := f__law_same.bindsN (ps := ["_law_found", "_law_due"]) bn__law_same
  have m__law_same := He.glo_ok X G (cd.fact 15 (f := .glo "_law_same") rfl)
  obtain ⟨fd__law_field, f__law_field⟩ := cd.def_ 16 (d := d__law_field) rfl
  have b__law_field := f__law_field.bindsN (ps := ["_law_e"]) bn__law_field
  have m__law_field := He.glo_ok X G (cd.fact 16 (f := .glo "_law_field") rfl)
  obtain ⟨fd__law_try, f__law_try⟩ := cd.def_ 17 (d := d__law_try) rfl
  have b__law_try := f__law_try.bindsN (ps := ["_law_ask"]) bn__law_try
  have m__law_try := He.glo_ok X G (cd.fact 17 (f := .glo "_law_try") rfl)
  obtain ⟨fd__law_tries, f__law_tries⟩ := cd.def_ 18 (d := d__law_tries) rfl
  have b__law_tries := f__law_tries.bindsN (ps := ["_law_asks"]) bn__law_tries
  have m__law_tries := He.glo_ok X G (cd.fact 18 (f := .glo "_law_tries") rfl)
  obtain ⟨fd__law_cases, f__law_cases⟩ := cd.def_ 19 (d := d__law_cases) rfl
  have b__law_cases := f__law_cases.bindsN (ps := ["_law_head", "_law_item", "_law_gust"]) bn__law_cases
  have m__law_cases := He.glo_ok X G (cd.fact 19 (f := .glo "_law_cases") rfl)
  obtain ⟨fd__law_heads, f__law_heads⟩ := cd.def_ 20 (d := d__law_heads) rfl
  have b__law_heads := f__law_heads.bindsN (ps := []) bn__law_heads
  have m__law_heads := He.glo_ok X G (cd.fact 20 (f := .glo "_law_heads") rfl)
  obtain ⟨fd_law, f_law⟩ := cd.def_ 21 (d := d_law) rfl
  obtain ⟨fd_Chart___init__, f_Chart___init__⟩ := cd.def_ 22 (d := d_Chart___init__) rfl
  obtain ⟨fd_Chart_read, f_Chart_read⟩ := cy.def_ 0 (d := (("Chart", "read"), d_Chart_read)) rfl
  obtain ⟨fi0, g0⟩ := cd.def_ 23 (d := di_InvalidChart) rfl
  have bi0 := g0.bindsN (ps := ["self", "row", "column"]) bni_InvalidChart
  obtain ⟨fi1, g1⟩ := cd.def_ 24 (d := di_InvalidText) rfl
  have bi1 := g1.bindsN (ps := ["self", "line", "why"]) bni_InvalidText
  obtain ⟨fi2, g2⟩ := cd.def_ 25 (d := di_InvalidTop) rfl
  have bi2 := g2.bindsN (ps := ["self", "value"]) bni_InvalidTop
  obtain ⟨fi3, g3⟩ := cd.def_ 26 (d := di_InvalidWind) rfl
  have bi3 := g3.bindsN (ps := ["self", "at"]) bni_InvalidWind
  have e := hfa.symm.trans (He.glo_ok X G (cd.fact 21 (f := .glo "law") rfl))
  cases e
  have hnd := of_decide_eq_true (exb_at cm 29 rfl)
  have bL := FunD.bindsA (ps := ["_law_script"]) f_law bn_law
  refine ⟨fd_law, (lml.map (·.1)).map (He.cT K), upX K (fun n => He.ga K n) (lml.map fun p => ((He.cT K p.1).2, p.2)) sp_law, fun p hp => ?_, fun p hp => ?_, fun p hp => ?_, fun s v => bL s [v] rfl, fun H a ns hl _ hT hS => law_end2 law_sp H a ns hl (fun p hp => ?_) hS, fun base _ _ TB => ?_⟩
  · obtain ⟨q, hq, rfl⟩ := List.mem_map.mp hp; exact c.empty q hq
  · obtain ⟨q, hq, rfl⟩ := List.mem_map.mp hp; exact c.out q hq
  · obtain ⟨q, hq, rfl⟩ := List.mem_map.mp hp; exact PySem.W.codeHd_of_K X (c.hd q hq)
  · obtain ⟨q, hq, rfl⟩ := List.mem_map.mp hp; exact hT (He.cT K q.1) (List.mem_map.mpr ⟨q.1, List.mem_map.mpr ⟨q, hq, rfl⟩, rfl⟩)
  have hno_Chart : ∀ f ∈ fields_Chart, NoAttr K (He.ga K "Chart") f := by
    intro f hf
    simp only [fields_Chart, List.mem_cons, List.not_mem_nil, or_false] at hf
    rcases hf with rfl | rfl | rfl | rfl | rfl
    · exact He.noat_ok (cd.fact 30 (f := .noat "Chart" "top") rfl)
    · exact He.noat_ok (cd.fact 31 (f := .noat "Chart" "last") rfl)
    · exact He.noat_ok (cd.fact 32 (f := .noat "Chart" "held_rows") rfl)
    · exact He.noat_ok (cd.fact 33 (f := .noat "Chart" "held_winds") rfl)
    · exact He.noat_ok (cd.fact 34 (f := .noat "Chart" "drags") rfl)
  have hcls_Chart : Cls K (He.ga K "Chart") := He.cls_ok (cd.fact 29 (f := .cls "Chart") rfl)
  have GB : Gb R.prog w K mg base (fun n => He.ga K n) := ⟨He.free_ok X G (cd.fact 36 (f := .free "all") rfl),
    He.free_ok X G (cd.fact 37 (f := .free "any") rfl),
    He.free_ok X G (cd.fact 38 (f := .free "bool") rfl),
    He.free_ok X G (cd.fact 39 (f := .free "enumerate") rfl),
    He.free_ok X G (cd.fact 40 (f := .free "int") rfl),
    He.free_ok X G (cd.fact 41 (f := .free "isinstance") rfl),
    He.free_ok X G (cd.fact 42 (f := .free "len") rfl),
    He.free_ok X G (cd.fact 43 (f := .free "list") rfl),
    He.free_ok X G (cd.fact 44 (f := .free "range") rfl),
    He.free_ok X G (cd.fact 45 (f := .free "str") rfl),
    He.free_ok X G (cd.fact 46 (f := .free "tuple") rfl),
    He.free_ok X G (cd.fact 47 (f := .free "zip") rfl),
    gcB_ok X G (exb_at cm 0 rfl),
    gcB_ok X G (exb_at cm 1 rfl),
    gcB_ok X G (exb_at cm 2 rfl),
    gcB_ok X G (exb_at cm 3 rfl),
    gcB_ok X G (exb_at cm 4 rfl),
    gcB_ok X G (exb_at cm 5 rfl),
    gcB_ok X G (exb_at cm 6 rfl),
    gcB_ok X G (exb_at cm 7 rfl),
    gcB_ok X G (exb_at cm 8 rfl),
    gcB_ok X G (exb_at cm 9 rfl),
    ⟨oexB_ok (exb_at cm 10 rfl), ⟨_, fi0, _, (iniB_ok (exb_at cm 11 rfl)).1, (iniB_ok (exb_at cm 11 rfl)).2, ini_InvalidChart (oexB_ok (exb_at cm 10 rfl)) (exb_at cm 12 rfl) g0, bi0⟩, He.glo_ok X G (cd.fact 22 (f := .glo "InvalidChart") rfl)⟩,
    ⟨oexB_ok (exb_at cm 13 rfl), ⟨_, fi1, _, (iniB_ok (exb_at cm 14 rfl)).1, (iniB_ok (exb_at cm 14 rfl)).2, ini_InvalidText (oexB_ok (exb_at cm 13 rfl)) (exb_at cm 15 rfl) g1, bi1⟩, He.glo_ok X G (cd.fact 23 (f := .glo "InvalidText") rfl)⟩,
    ⟨oexB_ok (exb_at cm 16 rfl), ⟨_, fi2, _, (iniB_ok (exb_at cm 17 rfl)).1, (iniB_ok (exb_at cm 17 rfl)).2, ini_InvalidTop (oexB_ok (exb_at cm 16 rfl)) (exb_at cm 18 rfl) g2, bi2⟩, He.glo_ok X G (cd.fact 24 (f := .glo "InvalidTop") rfl)⟩,
    ⟨oexB_ok (exb_at cm 19 rfl), ⟨_, fi3, _, (iniB_ok (exb_at cm 20 rfl)).1, (iniB_ok (exb_at cm 20 rfl)).2, ini_InvalidWind (oexB_ok (exb_at cm 19 rfl)) (exb_at cm 21 rfl) g3, bi3⟩, He.glo_ok X G (cd.fact 25 (f := .glo "InvalidWind") rfl)⟩,
    ⟨hcls_Chart, hno_Chart⟩,
    He.glo_ok X G (cd.fact 28 (f := .glo "Chart") rfl),
    cconB_ok (cl := fun n => He.ga K n) (He.glo_ok X G (cd.fact 28 (f := .glo "Chart") rfl)) (exb_at cm 22 rfl) (exb_at cm 23 rfl),
    cconB_ok (cl := fun n => He.ga K n) (He.glo_ok X G (cd.fact 28 (f := .glo "Chart") rfl)) (exb_at cm 22 rfl) (exb_at cm 24 rfl),
    He.glo_ok X G (cd.fact 26 (f := .glo "SkyError") rfl),
    He.glo_ok X G (cd.fact 27 (f := .glo "Missing") rfl),
    fun n hn => of_decide_eq_true (List.all_eq_true.mp (exb_at cm 26 rfl) n hn),
    fun n hn => ⟨xfB_ok (List.all_eq_true.mp (exb_at cm 27 rfl) n hn), List.all_eq_true.mp (exb_at cm 28 rfl) n hn⟩⟩
  let tb := lml.map fun p => ((He.cT K p.1).2, p.2)
  have F_is_number : Fnd R.prog w K mg base (fun n => He.ga K n) tb 1 "is_number" s_is_number ["value", "least", "most"] sp_is_number := ⟨_, fd_is_number, f_is_number, ok_is_number GB f_is_number, m_is_number, b_is_number⟩
  have F_number_in : Fnd R.prog w K mg base (fun n => He.ga K n) tb 1 "number_in" s_number_in ["text"] sp_number_in := ⟨_, fd_number_in, f_number_in, ok_number_in GB f_number_in, m_number_in, b_number_in⟩
  have F_items_in : Fnd R.prog w K mg base (fun n => He.ga K n) tb 2 "items_in" s_items_in ["words", "missing"] sp_items_in := ⟨_, fd_items_in, f_items_in, ok_items_in GB F_number_in f_items_in, m_items_in, b_items_in⟩
  have F_has_water : Fnd R.prog w K mg base (fun n => He.ga K n) tb 1 "has_water" s_has_water ["rows"] sp_has_water := ⟨_, fd_has_water, f_has_water, ok_has_water GB f_has_water, m_has_water, b_has_water⟩
  have F_read_top : Fnd R.prog w K mg base (fun n => He.ga K n) tb 3 "read_top" s_read_top ["words"] sp_read_top := ⟨_, fd_read_top, f_read_top, ok_read_top GB F_number_in f_read_top, m_read_top, b_read_top⟩
  have F_read_row : Fnd R.prog w K mg base (fun n => He.ga K n) tb 3 "read_row" s_read_row ["at", "words", "rows", "winds"] sp_read_row := ⟨_, fd_read_row, f_read_row, ok_read_row GB F_items_in f_read_row, m_read_row, b_read_row⟩
  have F_read_wind : Fnd R.prog w K mg base (fun n => He.ga K n) tb 3 "read_wind" s_read_wind ["at", "words", "rows", "winds"] sp_read_wind := ⟨_, fd_read_wind, f_read_wind, ok_read_wind GB F_has_water F_items_in f_read_wind, m_read_wind, b_read_wind⟩
  have F_read_parts : Fnd R.prog w K mg base (fun n => He.ga K n) tb 4 "read_parts" s_read_parts ["text"] sp_read_parts := ⟨_, fd_read_parts, f_read_parts, ok_read_parts GB F_has_water F_read_row F_read_top F_read_wind f_read_parts, m_read_parts, b_read_parts⟩
  have F_is_wind : Fnd R.prog w K mg base (fun n => He.ga K n) tb 2 "is_wind" s_is_wind ["value"] sp_is_wind := ⟨_, fd_is_wind, f_is_wind, ok_is_wind GB F_is_number f_is_wind, m_is_wind, b_is_wind⟩
  have F_is_listed : Fnd R.prog w K mg base (fun n => He.ga K n) tb 1 "is_listed" s_is_listed ["value", "least", "most"] sp_is_listed := ⟨_, fd_is_listed, f_is_listed, ok_is_listed GB f_is_listed, m_is_listed, b_is_listed⟩
  have F_check_rows : Fnd R.prog w K mg base (fun n => He.ga K n) tb 3 "check_rows" s_check_rows ["rows"] sp_check_rows := ⟨_, fd_check_rows, f_check_rows, ok_check_rows GB F_has_water F_is_listed F_is_number f_check_rows, m_check_rows, b_check_rows⟩
  have F_check_winds : Fnd R.prog w K mg base (fun n => He.ga K n) tb 3 "check_winds" s_check_winds ["winds"] sp_check_winds := ⟨_, fd_check_winds, f_check_winds, ok_check_winds GB F_is_listed F_is_wind f_check_winds, m_check_winds, b_check_winds⟩
  have F__law_bag : Fnd R.prog w K mg base (fun n => He.ga K n) tb 1 "_law_bag" s__law_bag ["_law_script"] sp__law_bag := ⟨_, fd__law_bag, f__law_bag, ok__law_bag GB f__law_bag, m__law_bag, b__law_bag⟩
  have F__law_draw : Fnd R.prog w K mg base (fun n => He.ga K n) tb 1 "_law_draw" s__law_draw ["_law_bag_here", "_law_many"] sp__law_draw := ⟨_, fd__law_draw, f__law_draw, draw_ok (ok__law_draw GB f__law_draw), m__law_draw, b__law_draw⟩
  have F__law_pick : Fnd R.prog w K mg base (fun n => He.ga K n) tb 2 "_law_pick" s__law_pick ["_law_bag_here", "_law_some"] sp__law_pick := ⟨_, fd__law_pick, f__law_pick, ok__law_pick GB F__law_draw f__law_pick, m__law_pick, b__law_pick⟩
  have F__law_same : Fnd R.prog w K mg base (fun n => He.ga K n) tb 8 "_law_same" s__law_same ["_law_found", "_law_due"] sp__law_same := same_ok GB f__law_same m__law_same b__law_same 6
  have F__law_field : FndH R.prog w K mg base (fun n => He.ga K n) 1 "_law_field" s__law_field ["_law_e"] (sp__law_field xnames) := ⟨_, fd__law_field, f__law_field, ok__law_field GB f__law_field, m__law_field, b__law_field⟩
  have F__law_try := And.intro f__law_try (And.intro m__law_try b__law_try)
  have F__law_tries := And.intro f__law_tries (And.intro m__law_tries b__law_tries)
  have F__law_cases : Fnd R.prog w K mg base (fun n => He.ga K n) tb 1 "_law_cases" s__law_cases ["_law_head", "_law_item", "_law_gust"] sp__law_cases := ⟨_, fd__law_cases, f__law_cases, ok__law_cases GB f__law_cases, m__law_cases, b__law_cases⟩
  have F__law_heads : Fnd R.prog w K mg base (fun n => He.ga K n) tb 1 "_law_heads" s__law_heads [] sp__law_heads := ⟨_, fd__law_heads, f__law_heads, ok__law_heads GB f__law_heads, m__law_heads, b__law_heads⟩
  have M_Chart_2_top : Mkr R.prog w K mg base (fun n => He.ga K n) tb 4 "Chart" 2 ["top"] ["self", "rows", "winds", "top"] (fun ds es => ds ++ es) sp_Chart___init__ := ⟨_, fd_Chart___init__, He.mkr_ok (cd.fact 35 (f := .mkr "Chart") rfl), ok_Chart___init__ GB F_check_rows F_check_winds F_is_number f_Chart___init__, kb_M_Chart_2_top f_Chart___init__ rfl (fun z => by cases z), He.glo_ok X G (cd.fact 28 (f := .glo "Chart") rfl)⟩
  have S_Chart_read_1 : Stc R.prog w K mg base (fun n => He.ga K n) tb 6 "Chart" "read" 1 [] ["text"] (fun ds es => ds ++ es) sp_Chart_read := ⟨_, _, fd_Chart_read, smB_ok (exb_at cm 25 rfl), ok_Chart_read GB M_Chart_2_top F_read_parts f_Chart_read, kb_S_Chart_read_1 f_Chart_read, He.glo_ok X G (cd.fact 28 (f := .glo "Chart") rfl)⟩
  have lm0 := tb_one hnd (p := (("law", none), ((PyProof.Rows.envOfC "law" (defScope s_law) 0 0 .none).qual ++ "<lambda>"))) (by exact List.mem_of_getElem? (i := 0) rfl)
  have TB0 := TB (He.cT K ("law", none)) (List.mem_map.mpr ⟨("law", none), List.mem_of_getElem? (i := 0) rfl, rfl⟩)
  exact ok_law GB S_Chart_read_1 F__law_bag F__law_cases F__law_draw F__law_heads F__law_pick F__law_same F__law_tries F__law_field F__law_try F_read_parts lm0.1 lm0.2 TB0 f_law
end K08
open PySem PySem.W PySem.Calls PyProof.Rows
theorem PySem.Challenge.cw_highestsky_k08_chart_texts_refused_by_ha_holds : PySem.Challenge.rw_highestsky_k08_chart_texts_refused_by_ha.Holds := by
  w_on; o_law
  refine HandSHeadRun.head_any (r := OpenLaw.row PySem.Challenge.rw_highestsky_k08_chart_texts_refused_by_ha) (q := view (OpenLaw.row PySem.Challenge.rw_highestsky_k08_chart_texts_refused_by_ha).prog [52]) (H := K08.hk) (ob := K08.ob) (M := 20000) (loose := K08.loo) (d := HandSHeadRun.topDef (OpenLaw.row PySem.Challenge.rw_highestsky_k08_chart_texts_refused_by_ha).prog 52) (kwd := []) K08.ob_eq
    (by kernel_rfl) (fun s => by kernel_rfl) K08.run (by kernel_rfl) (by kernel_rfl) (by kernel_rfl) (by rfl) (by first | assumption | decide +kernel) (by decide +kernel) ⟨rfl, rfl, rfl, rfl, rfl, by decide +kernel⟩ ?hw ?hc
  case hw => w_witness2
  case hc =>
    refine LamX.walk_ofTsE (l := PySem.Challenge.rw_highestsky_k08_chart_texts_refused_by_ha) (n := 63) (k := 10) (x := "_law_script") (CX := fun w => L2N.CX (PySem.Challenge.rw_highestsky_k08_chart_texts_refused_by_ha).prog w) rfl (by decide) (by kernel_rfl) ⟨rfl, by decide, by decide⟩ ?F (fun w H s e s' z => DL.cx_end _ w H s e s' z)
    intro w mg fa h Y G hmg0
    obtain ⟨K, KX, c⟩ := Y
    have hmg : mg ("law" : PySem.Str) = some (.ref fa) := by
      have e : (HandSHeadRun.topDef (OpenLaw.row PySem.Challenge.rw_highestsky_k08_chart_texts_refused_by_ha).prog 52).name = ("law" : PySem.Str) := by kernel_rfl
      rw [← e]
      exact hmg0
    exact ⟨K, KX, K08.facts KX G hmg c⟩
