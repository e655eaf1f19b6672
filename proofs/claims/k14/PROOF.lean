import PyProof.Rows.All
import Wide.All
import OpenK.AllK
import Wide.FinOn
import HandS.ForMost
import HandS.ForExc
import HandS.SlotsOwn
import HandS.ClsMeth
import HandS.Flow
import HandS.Star
import HandS.TupAny
import HandS.FStr
import HandS.Lambda
import HandS.MakeKw
import HandS.TryOnly
import HandS.TupLe
import HandS.WideBits
import HandS.Deep
import HandS.Small
import HandS.IsInst
import HandS.SortInts
import HandS.Conv
import HandS.RaiseMore
import PyProof.ReprRoads
import PyProof.CallStr
import PyProof.Conv_bool
import HandS.Iter
import HandS.Rev
import KE.GoesMore
import PyProof.EnumMake
import PyProof.Draws
import HandS.Style
import HandS.EndBits
import HandS.More
import HandS.SortKw
import KE.KDictPairs
import PyProof.EqAt
import PyProof.EqKinds
import HandS.Codes
import HandS.Text
import PySem.Challenge.RW_degreerows_k14_rows_compared
set_option Elab.async false
set_option linter.all false
set_option maxRecDepth 100000
set_option maxHeartbeats 1000000
/-! Data calculus 1: plain data, what a value tells of it, the state of a frame. -/
namespace Dc
open PySem L2

/-- plain data: what a value is worth, without addresses -/
inductive D where
  | non | bl (b : Bool) | int (i : Int) | str (x : Str)
  | tup (xs : List D) | lst (xs : List D) | dic (kvs : List (Key × D))
  | obj (n : Nat) (xs : List D)
  | ptr
  | clo (n : Nat) (xs : List D)
  | exc (n : Nat) (xs : List D)
  | adr (a : Addr)
  | scr (ns : List Int)
  | tpz (xs : List D)

/-- the text: the written part, the classes by number, what holds of the pail's ints -/
structure Tx where
  K : PySem.W.Frag
  cl : Nat → Addr
  pl : Int → Int → Int → Prop
  ob : Nat → Nat → Option Bool := fun _ _ => none
/-- the one mutable pail, the heap at the entry, addresses that are left alone -/
structure Dx (T : Tx) where
  pa : Option Addr
  H0 : Hp
  fb : Addr → Prop

/-- all that stood stands -/
def Ex (H H' : Hp) : Prop := ∀ a o, H a = some o → H' a = some o
theorem Ex.rfl' {H : Hp} : Ex H H := fun _ _ h => h
theorem Ex.trans {H H1 H2 : Hp} (a : Ex H H1) (b : Ex H1 H2) : Ex H H2 := fun x o h => b x o (a x o h)
theorem Ex.new {H : Hp} {p : Addr} {o : HO} (h : H p = none) : Ex H (upd H p o) := fun a u e => by
  rw [upd_ne (ne_of_none e h)]; exact e
theorem Ex.free {H H' : Hp} {p : Addr} (e : Ex H H') (h : H' p = none) : H p = none := by
  cases q : H p with
  | none => rfl
  | some o => rw [e p o q] at h; cases h
theorem Ex.rd {H H' : Hp} {a : Addr} {u : HO} (e : Ex H H') (h : Rd H a u) : Rd H' a u := by
  rcases h with h | ⟨o, h⟩
  · exact .inl (e a _ h)
  · exact .inr ⟨o, e a _ h⟩
theorem Ex.sqL {K : PySem.W.Frag} {H H' : Hp} {a : Addr} {xs : List V} (e : Ex H H') (h : SqL K H a xs) : SqL K H' a xs := by
  rcases h with h | h
  · exact .inl (e.rd h)
  · exact .inr h
theorem Ex.sqT {K : PySem.W.Frag} {H H' : Hp} {a : Addr} {xs : List V} (e : Ex H H') (h : SqT K H a xs) : SqT K H' a xs := by
  rcases h with h | h
  · exact .inl (e.rd h)
  · exact .inr h
theorem Ex.slt {H H' : Hp} {a C dx : Addr} {vs : List (Option V)} (e : Ex H H') (h : SlX.Slt H a C dx vs) : SlX.Slt H' a C dx vs := by
  rcases h with ⟨h1, h2⟩ | ⟨h1, h2⟩
  · exact .inl ⟨e _ _ h1, h2⟩
  · exact .inr ⟨e _ _ h1, e _ _ h2⟩

mutual
/-- v is worth d, as B tells -/
inductive Den {T : Tx} (c : Dx T) (B : Hp) : V → D → Prop
  | non : Den c B .non .non
  | bl (b : Bool) : Den c B (.bl b) (.bl b)
  | int (i : Int) : Den c B (.int i) (.int i)
  | str (x : Str) : Den c B (.str x) (.str x)
  | tup {a : Addr} {xs : List V} {ds : List D} : SqT T.K B a xs → Dens c B xs ds → Den c B (.ref a) (.tup ds)
  | lst {a : Addr} {xs : List V} {ds : List D} : B a = some (.lst xs) → c.pa ≠ some a → Dens c B xs ds → Den c B (.ref a) (.lst ds)
  | dic {a : Addr} {xs : List (Key × V)} {ds : List (Key × D)} : B a = some (.dK xs) → c.pa ≠ some a → DenK c B xs ds → Den c B (.ref a) (.dic ds)
  | obj {a dx : Addr} {xs : List V} {n : Nat} {ds : List D} : SlX.Slt B a (T.cl n) dx (xs.map some) → Dens c B xs ds → Den c B (.ref a) (.obj n ds)
  | ptr {a : Addr} : c.pa = some a → Den c B (.ref a) .ptr
  | adr {a : Addr} : Den c B (.ref a) (.adr a)
  | scr {a : Addr} {ns : List Int} : SqL T.K B a (ns.map V.int) → Den c B (.ref a) (.scr ns)
  | tpz {a : Addr} {o : PySem.Obj} {xs : List V} {ds : List D} : B a = some (.frz o (.tup xs)) → o.cls = .type "tuple" → o.dict = none → Dens c B xs ds → Den c B (.ref a) (.tpz ds)
inductive Dens {T : Tx} (c : Dx T) (B : Hp) : List V → List D → Prop
  | nil : Dens c B [] []
  | cons {v : V} {d : D} {vs : List V} {ds : List D} : Den c B v d → Dens c B vs ds → Dens c B (v :: vs) (d :: ds)
inductive DenK {T : Tx} (c : Dx T) (B : Hp) : List (Key × V) → List (Key × D) → Prop
  | nil : DenK c B [] []
  | cons {k : Key} {v : V} {d : D} {vs : List (Key × V)} {ds : List (Key × D)} : Den c B v d → DenK c B vs ds → DenK c B ((k, v) :: vs) ((k, d) :: ds)
end

mutual
theorem Den.mono {T : Tx} {c : Dx T} {B B' : Hp} (e : Ex B B') : ∀ {v : V} {d : D}, Den c B v d → Den c B' v d
  | _, _, .non => .non
  | _, _, .bl b => .bl b
  | _, _, .int i => .int i
  | _, _, .str x => .str x
  | _, _, .tup h r => .tup (e.sqT h) (Dens.mono e r)
  | _, _, .lst h n r => .lst (e _ _ h) n (Dens.mono e r)
  | _, _, .dic h n r => .dic (e _ _ h) n (DenK.mono e r)
  | _, _, .obj h r => .obj (e.slt h) (Dens.mono e r)
  | _, _, .ptr h => .ptr h
  | _, _, .adr => .adr
  | _, _, .scr h => .scr (e.sqL h)
  | _, _, .tpz h h1 h2 r => .tpz (e _ _ h) h1 h2 (Dens.mono e r)
theorem Dens.mono {T : Tx} {c : Dx T} {B B' : Hp} (e : Ex B B') : ∀ {vs : List V} {ds : List D}, Dens c B vs ds → Dens c B' vs ds
  | _, _, .nil => .nil
  | _, _, .cons h r => .cons (Den.mono e h) (Dens.mono e r)
theorem DenK.mono {T : Tx} {c : Dx T} {B B' : Hp} (e : Ex B B') : ∀ {vs : List (Key × V)} {ds : List (Key × D)}, DenK c B vs ds → DenK c B' vs ds
  | _, _, .nil => .nil
  | _, _, .cons h r => .cons (Den.mono e h) (DenK.mono e r)
end
/-- another entry heap, other addresses left alone -/
abbrev Dx.ent {T : Tx} (c : Dx T) (H : Hp) (F : Addr → Prop) : Dx T := { c with H0 := H, fb := F }
mutual
theorem Den.ent {T : Tx} {c : Dx T} {B : Hp} (H : Hp) (F : Addr → Prop) : ∀ {v : V} {d : D}, Den c B v d → Den (c.ent H F) B v d
  | _, _, .non => .non
  | _, _, .bl b => .bl b
  | _, _, .int i => .int i
  | _, _, .str x => .str x
  | _, _, .tup h r => .tup h (Dens.ent H F r)
  | _, _, .lst h n r => .lst h n (Dens.ent H F r)
  | _, _, .dic h n r => .dic h n (DenK.ent H F r)
  | _, _, .obj h r => .obj h (Dens.ent H F r)
  | _, _, .ptr h => .ptr h
  | _, _, .adr => .adr
  | _, _, .scr h => .scr h
  | _, _, .tpz h h1 h2 r => .tpz h h1 h2 (Dens.ent H F r)
theorem Dens.ent {T : Tx} {c : Dx T} {B : Hp} (H : Hp) (F : Addr → Prop) : ∀ {vs : List V} {ds : List D}, Dens c B vs ds → Dens (c.ent H F) B vs ds
  | _, _, .nil => .nil
  | _, _, .cons h r => .cons (Den.ent H F h) (Dens.ent H F r)
theorem DenK.ent {T : Tx} {c : Dx T} {B : Hp} (H : Hp) (F : Addr → Prop) : ∀ {vs : List (Key × V)} {ds : List (Key × D)}, DenK c B vs ds → DenK (c.ent H F) B vs ds
  | _, _, .nil => .nil
  | _, _, .cons h r => .cons (Den.ent H F h) (DenK.ent H F r)
end
section
variable {T : Tx} {c : Dx T} {B B' H H' : Hp}
theorem Dens.length {vs : List V} {ds : List D} (h : Dens c B vs ds) : vs.length = ds.length := by
  induction vs generalizing ds with
  | nil => cases h; rfl
  | cons v vs ih => cases h with | cons _ r => simp [ih r]
theorem DenK.length {vs : List (Key × V)} {ds : List (Key × D)} (h : DenK c B vs ds) : vs.length = ds.length := by
  induction vs generalizing ds with
  | nil => cases h; rfl
  | cons v vs ih => cases h with | cons _ r => simp [ih r]
theorem Dens.get {vs : List V} {ds : List D} (h : Dens c B vs ds) {i : Nat} {d : D} (e : ds[i]? = some d) : ∃ v, vs[i]? = some v ∧ Den c B v d := by
  induction vs generalizing ds i with
  | nil => cases h; simp at e
  | cons v vs ih =>
    cases h with
    | cons h1 r =>
      cases i with
      | zero => simp at e; subst e; exact ⟨v, rfl, h1⟩
      | succ i => simp at e ⊢; exact ih r e
theorem Dens.getV {vs : List V} {ds : List D} (h : Dens c B vs ds) {i : Nat} {v : V} (e : vs[i]? = some v) : ∃ d, ds[i]? = some d ∧ Den c B v d := by
  induction vs generalizing ds i with
  | nil => simp at e
  | cons w vs ih =>
    cases h with
    | cons h1 r =>
      cases i with
      | zero => simp at e; subst e; exact ⟨_, rfl, h1⟩
      | succ i => simp at e ⊢; exact ih r e
theorem Dens.append {vs ws : List V} {ds es : List D} (h : Dens c B vs ds) (g : Dens c B ws es) : Dens c B (vs ++ ws) (ds ++ es) := by
  induction vs generalizing ds with
  | nil => cases h; exact g
  | cons v vs ih => cases h with | cons h1 r => exact .cons h1 (ih r)
theorem Dens.take {vs : List V} {ds : List D} (h : Dens c B vs ds) (n : Nat) : Dens c B (vs.take n) (ds.take n) := by
  induction vs generalizing ds n with
  | nil => cases h; simp; exact .nil
  | cons v vs ih =>
    cases h with
    | cons h1 r =>
      cases n with
      | zero => exact .nil
      | succ n => exact .cons h1 (ih r n)
theorem Dens.drop {vs : List V} {ds : List D} (h : Dens c B vs ds) (n : Nat) : Dens c B (vs.drop n) (ds.drop n) := by
  induction vs generalizing ds n with
  | nil => cases h; simp; exact .nil
  | cons v vs ih =>
    cases h with
    | cons h1 r =>
      cases n with
      | zero => exact .cons h1 r
      | succ n => exact ih r n
theorem Dens.reverse {vs : List V} {ds : List D} (h : Dens c B vs ds) : Dens c B vs.reverse ds.reverse := by
  induction vs generalizing ds with
  | nil => cases h; exact .nil
  | cons v vs ih => cases h with | cons h1 r => simp; exact (ih r).append (.cons h1 .nil)
theorem Dens.set {vs : List V} {ds : List D} (h : Dens c B vs ds) (n : Nat) {v : V} {d : D} (g : Den c B v d) : Dens c B (vs.set n v) (ds.set n d) := by
  induction vs generalizing ds n with
  | nil => cases h; exact .nil
  | cons w vs ih =>
    cases h with
    | cons h1 r =>
      cases n with
      | zero => exact .cons g r
      | succ n => exact .cons h1 (ih r n)
theorem Dens.dropLast {vs : List V} {ds : List D} (h : Dens c B vs ds) : Dens c B vs.dropLast ds.dropLast := by
  rw [List.dropLast_eq_take, List.dropLast_eq_take, h.length]; exact h.take _
theorem Dens.eraseIdx {vs : List V} {ds : List D} (h : Dens c B vs ds) (n : Nat) : Dens c B (vs.eraseIdx n) (ds.eraseIdx n) := by
  rw [List.eraseIdx_eq_take_drop_succ, List.eraseIdx_eq_take_drop_succ]; exact (h.take _).append (h.drop _)
theorem Dens.ints : ∀ (l : List Int), Dens c B (l.map V.int) (l.map D.int)
  | [] => .nil
  | i :: l => .cons (.int i) (Dens.ints l)
theorem Dens.strs : ∀ (l : List Str), Dens c B (l.map V.str) (l.map D.str)
  | [] => .nil
  | i :: l => .cons (.str i) (Dens.strs l)
theorem Dens.toInts : ∀ {l : List Int} {vs : List V}, Dens c B vs (l.map D.int) → vs = l.map V.int
  | [], _, .nil => rfl
  | i :: l, _, .cons (.int _) r => by rw [Dens.toInts r]; rfl
theorem Dens.toStrs : ∀ {l : List Str} {vs : List V}, Dens c B vs (l.map D.str) → vs = l.map V.str
  | [], _, .nil => rfl
  | i :: l, _, .cons (.str _) r => by rw [Dens.toStrs r]; rfl
theorem Dens.toBls : ∀ {l : List Bool} {vs : List V}, Dens c B vs (l.map D.bl) → vs = l.map V.bl
  | [], _, .nil => rfl
  | i :: l, _, .cons (.bl _) r => by rw [Dens.toBls r]; rfl
end

/-! ### the pail: three ints that are as the text says -/
def PailAt (P : Int → Int → Int → Prop) (H : Hp) (a : Addr) : Prop := ∃ x y z : Int, H a = some (.lst [.int x, .int y, .int z]) ∧ P x y z
def Pail {T : Tx} (c : Dx T) (B H : Hp) : Prop := ∀ a, c.pa = some a → B a = none ∧ PailAt T.pl H a
/-- all that stood stands, but the pail -/
def ExP {T : Tx} (c : Dx T) (H H' : Hp) : Prop := ∀ a o, c.pa ≠ some a → H a = some o → H' a = some o
theorem ExP.rfl' {T : Tx} {c : Dx T} {H : Hp} : ExP c H H := fun _ _ _ h => h
theorem ExP.trans {T : Tx} {c : Dx T} {H H1 H2 : Hp} (a : ExP c H H1) (b : ExP c H1 H2) : ExP c H H2 := fun x o n h => b x o n (a x o n h)
theorem Ex.p {T : Tx} {c : Dx T} {H H' : Hp} (e : Ex H H') : ExP c H H' := fun a o _ h => e a o h

/-! ### a frame's slots -/
inductive Sl where
  | no | sh (d : D) | own (d : D)
abbrev Env := List Sl

/-- a list or dict of our own at a: its items are told by B, itself by H alone -/
inductive OwnAt {T : Tx} (c : Dx T) (B H : Hp) (a : Addr) : D → Prop
  | lst {xs : List V} {ds : List D} : H a = some (.lst xs) → Dens c B xs ds → OwnAt c B H a (.lst ds)
  | dic {xs : List (Key × V)} {ds : List (Key × D)} : H a = some (.dK xs) → DenK c B xs ds → OwnAt c B H a (.dic ds)
theorem OwnAt.there {T : Tx} {c : Dx T} {B H : Hp} {a : Addr} {d : D} (h : OwnAt c B H a d) : ∃ o, H a = some o := by
  cases h with
  | lst h _ => exact ⟨_, h⟩
  | dic h _ => exact ⟨_, h⟩
theorem OwnAt.mono {T : Tx} {c : Dx T} {B B' H H' : Hp} {a : Addr} {d : D} (h : OwnAt c B H a d) (e : Ex B B') (k : ∀ o, H a = some o → H' a = some o) : OwnAt c B' H' a d := by
  cases h with
  | lst h r => exact .lst (k _ h) (r.mono e)
  | dic h r => exact .dic (k _ h) (r.mono e)
/-- a is nobody else's: not told, not the pail, new since the entry -/
structure Mine {T : Tx} (c : Dx T) (B : Hp) (a : Addr) : Prop where
  b : B a = none
  p : c.pa ≠ some a
  h : c.H0 a = none
  f : ¬ c.fb a

inductive SlR {T : Tx} (c : Dx T) (B H : Hp) : Option V → Sl → Prop
  | no {o : Option V} : SlR c B H o .no
  | sh {v : V} {d : D} : Den c B v d → SlR c B H (some v) (.sh d)
  | own {a : Addr} {d : D} : Mine c B a → OwnAt c B H a d → SlR c B H (some (.ref a)) (.own d)

/-- σ's slots are worth ρ -/
structure Rel {T : Tx} (c : Dx T) (σ : St) (B H : Hp) (ρ : Env) : Prop where
  ex : Ex B H
  pail : Pail c B H
  ent : ExP c c.H0 H
  fb : ∀ a, c.fb a → (∃ o, H a = some o) ∧ B a = none ∧ c.pa ≠ some a
  len : σ.length = ρ.length
  sl : ∀ (i : Nat) (o : Option V) (s : Sl), σ[i]? = some o → ρ[i]? = some s → SlR c B H o s
  dj : ∀ (i j : Nat) (a : Addr) (d e : D), σ[i]? = some (some (.ref a)) → ρ[i]? = some (.own d) → σ[j]? = some (some (.ref a)) → ρ[j]? = some (.own e) → i = j

/-- an address that stands in H is no new one's -/
theorem Mine.ne {T : Tx} {c : Dx T} {B H : Hp} {a p : Addr} {d : D} (o : OwnAt c B H a d) (h : H p = none) : a ≠ p := by
  obtain ⟨u, e⟩ := o.there
  exact ne_of_none e h
section
variable {T : Tx} {c : Dx T} {σ : St} {B B' H H' : Hp} {ρ : Env}
/-- B and H grow; what is ours stays ours -/
theorem Rel.grow (R : Rel c σ B H ρ) (e : Ex B B') (e' : Ex B' H') (k : ExP c H H') (hp : Pail c B' H') (hm : ∀ a d (i : Nat), σ[i]? = some (some (.ref a)) → ρ[i]? = some (.own d) → B' a = none) (hf : ∀ a, c.fb a → B' a = none) : Rel c σ B' H' ρ where
  ex := e'
  pail := hp
  ent := R.ent.trans k
  fb := fun a h => let ⟨⟨o, h1⟩, _, h3⟩ := R.fb a h; ⟨⟨o, k _ _ h3 h1⟩, hf a h, h3⟩
  len := R.len
  sl := fun i o s h1 h2 => by
    have h := R.sl i o s h1 h2
    cases h with
    | no => exact .no
    | sh h => exact .sh (h.mono e)
    | own m h => exact .own ⟨hm _ _ _ h1 h2, m.p, m.h, m.f⟩ (h.mono e fun o q => k _ o m.p q)
  dj := R.dj
theorem Rel.ownB (R : Rel c σ B H ρ) {i : Nat} {a : Addr} {d : D} (h1 : σ[i]? = some (some (.ref a))) (h2 : ρ[i]? = some (.own d)) : Mine c B a ∧ OwnAt c B H a d := by
  have h := R.sl i _ _ h1 h2
  cases h with
  | own m h => exact ⟨m, h⟩
/-- a new object at p, told of -/
theorem Rel.newB (R : Rel c σ B H ρ) {p : Addr} {o : HO} (hp : H p = none) : Rel c σ (upd B p o) (upd H p o) ρ := by
  have bp : B p = none := R.ex.free hp
  refine R.grow (Ex.new bp) (fun a u h => ?_) (Ex.p (Ex.new hp)) (fun a e => ?_) (fun a d i h1 h2 => ?_) (fun a h => ?_)
  · by_cases q : a = p
    · subst q; rw [upd_same] at h ⊢; exact h
    · rw [upd_ne q] at h ⊢; exact R.ex a u h
  · obtain ⟨x, y, z, ha, r⟩ := (R.pail a e).2
    have ne : a ≠ p := ne_of_none ha hp
    exact ⟨by rw [upd_ne ne]; exact (R.pail a e).1, x, y, z, by rw [upd_ne ne]; exact ha, r⟩
  · obtain ⟨m, h⟩ := R.ownB h1 h2
    rw [upd_ne (Mine.ne h hp)]; exact m.b
  · obtain ⟨⟨u, q⟩, q2, _⟩ := R.fb a h
    rw [upd_ne (ne_of_none q hp)]; exact q2
/-- a new object at p, not told of -/
theorem Rel.newH (R : Rel c σ B H ρ) {p : Addr} {o : HO} (hp : H p = none) : Rel c σ B (upd H p o) ρ := by
  refine R.grow Ex.rfl' (R.ex.trans (Ex.new hp)) (Ex.p (Ex.new hp)) (fun a e => ?_) (fun a d i h1 h2 => (R.ownB h1 h2).1.b) (fun a h => (R.fb a h).2.1)
  obtain ⟨x, y, z, ha, r⟩ := (R.pail a e).2
  exact ⟨(R.pail a e).1, x, y, z, by rw [upd_ne (ne_of_none ha hp)]; exact ha, r⟩
/-- an address new in H is ours -/
theorem Rel.mine (R : Rel c σ B H ρ) {p : Addr} (hp : H p = none) : Mine c B p := by
  have np : c.pa ≠ some p := fun e => by
    obtain ⟨_, _, _, h, _⟩ := (R.pail p e).2
    rw [hp] at h; cases h
  refine ⟨R.ex.free hp, np, ?_, fun q => by obtain ⟨⟨o, h⟩, _⟩ := R.fb p q; rw [hp] at h; cases h⟩
  cases q : c.H0 p with
  | none => rfl
  | some o => rw [R.ent p o np q] at hp; cases hp
end

/-! ### what an expression hands on -/
inductive Tag where
  | p | f | b (i : Nat)
/-- a value as it can be looked into now -/
inductive Tm {T : Tx} (c : Dx T) (B H : Hp) : V → D → Prop
  | den {v : V} {d : D} : Den c B v d → Tm c B H v d
  | own {a : Addr} {d : D} : c.pa ≠ some a → OwnAt c B H a d → Tm c B H (.ref a) d
/-- whose it is -/
inductive Tg {T : Tx} (c : Dx T) (σ : St) (B H : Hp) (ρ : Env) : V → D → Tag → Prop
  | p {v : V} {d : D} : Den c B v d → Tg c σ B H ρ v d .p
  | f {a : Addr} {d : D} : Mine c B a → OwnAt c B H a d → (∀ (i : Nat) (e : D), σ[i]? = some (some (.ref a)) → ρ[i]? = some (.own e) → False) → Tg c σ B H ρ (.ref a) d .f
  | b {a : Addr} {d : D} {i : Nat} : σ[i]? = some (some (.ref a)) → ρ[i]? = some (.own d) → Tg c σ B H ρ (.ref a) d (.b i)
section
variable {T : Tx} {c : Dx T} {σ : St} {B B' H H' : Hp} {ρ : Env} {v : V} {d : D} {g : Tag}
theorem Tm.mono (h : Tm c B H v d) (e : Ex B B') (k : ExP c H H') : Tm c B' H' v d := by
  cases h with
  | den h => exact .den (h.mono e)
  | own n h => exact .own n (h.mono e fun o q => k _ o n q)
theorem Tg.tm (h : Tg c σ B H ρ v d g) (R : Rel c σ B H ρ) : Tm c B H v d := by
  cases h with
  | p h => exact .den h
  | f m h _ => exact .own m.p h
  | b h1 h2 => exact .own (R.ownB h1 h2).1.p (R.ownB h1 h2).2
theorem Tm.list {ds : List D} (h : Tm c B H v (.lst ds)) (ex : Ex B H) : ∃ a xs, v = .ref a ∧ H a = some (.lst xs) ∧ Dens c B xs ds := by
  cases h with
  | den h => cases h with | lst h _ r => exact ⟨_, _, rfl, ex _ _ h, r⟩
  | own _ h => cases h with | lst h r => exact ⟨_, _, rfl, h, r⟩
theorem Tm.dict {ds : List (Key × D)} (h : Tm c B H v (.dic ds)) (ex : Ex B H) : ∃ a xs, v = .ref a ∧ H a = some (.dK xs) ∧ DenK c B xs ds := by
  cases h with
  | den h => cases h with | dic h _ r => exact ⟨_, _, rfl, ex _ _ h, r⟩
  | own _ h => cases h with | dic h r => exact ⟨_, _, rfl, h, r⟩
theorem Tm.tuple {ds : List D} (h : Tm c B H v (.tup ds)) (ex : Ex B H) : ∃ a xs, v = .ref a ∧ SqT T.K H a xs ∧ Dens c B xs ds := by
  cases h with
  | den h => cases h with | tup h r => exact ⟨_, _, rfl, ex.sqT h, r⟩
  | own _ h => cases h
theorem Tm.int_ {i : Int} (h : Tm c B H v (.int i)) : v = .int i := by
  cases h with
  | den h => cases h; rfl
  | own _ h => cases h
theorem Tm.str_ {x : Str} (h : Tm c B H v (.str x)) : v = .str x := by
  cases h with
  | den h => cases h; rfl
  | own _ h => cases h
theorem Tm.bl_ {b : Bool} (h : Tm c B H v (.bl b)) : v = .bl b := by
  cases h with
  | den h => cases h; rfl
  | own _ h => cases h
theorem Tm.non_ (h : Tm c B H v .non) : v = .non := by
  cases h with
  | den h => cases h; rfl
  | own _ h => cases h
theorem Tm.ptr_ (h : Tm c B H v .ptr) : ∃ a, v = .ref a ∧ c.pa = some a := by
  cases h with
  | den h => cases h with | ptr h => exact ⟨_, rfl, h⟩
  | own _ h => cases h
theorem Tm.scr_ {ns : List Int} (h : Tm c B H v (.scr ns)) (ex : Ex B H) : ∃ a, v = .ref a ∧ SqL T.K H a (ns.map V.int) := by
  cases h with
  | den h => cases h with | scr h => exact ⟨_, rfl, ex.sqL h⟩
  | own _ h => cases h
theorem Tm.obj_ {n : Nat} {ds : List D} (h : Tm c B H v (.obj n ds)) (ex : Ex B H) : ∃ a dx xs, v = .ref a ∧ SlX.Slt H a (T.cl n) dx (xs.map some) ∧ Dens c B xs ds := by
  cases h with
  | den h => cases h with | obj h r => exact ⟨_, _, _, rfl, ex.slt h, r⟩
  | own _ h => cases h
end

/-- the state behind handing the value on for good -/
def leak (d : D) (g : Tag) (ρ : Env) : Env := match g with
  | .b i => ρ.set i (.sh d)
  | _ => ρ
section
variable {T : Tx} {c : Dx T} {σ : St} {B H : Hp} {ρ : Env} {v : V} {d : D} {g : Tag}
/-- our own thing at a is told of from now on -/
theorem OwnAt.tell {a : Addr} (h : OwnAt c B H a d) (m : Mine c B a) (ex : Ex B H) : ∃ o, H a = some o ∧ Ex B (upd B a o) ∧ Ex (upd B a o) H ∧ Den c (upd B a o) (.ref a) d := by
  have go : ∀ o, H a = some o → Ex (upd B a o) H := fun o ho b u q => by
    by_cases e : b = a
    · subst e; rw [upd_same] at q; rw [← q]; exact ho
    · rw [upd_ne e] at q; exact ex b u q
  cases h with
  | lst h r => exact ⟨_, h, Ex.new m.b, go _ h, .lst upd_same m.p (r.mono (Ex.new m.b))⟩
  | dic h r => exact ⟨_, h, Ex.new m.b, go _ h, .dic upd_same m.p (r.mono (Ex.new m.b))⟩
theorem leak_ok (R : Rel c σ B H ρ) (h : Tg c σ B H ρ v d g) : ∃ B', Ex B B' ∧ Rel c σ B' H (leak d g ρ) ∧ Den c B' v d := by
  cases h with
  | p h => exact ⟨B, Ex.rfl', R, h⟩
  | @f a d m h n =>
    obtain ⟨o, ho, e1, e2, q⟩ := h.tell m R.ex
    refine ⟨upd B a o, e1, R.grow e1 e2 ExP.rfl' (fun p e => ⟨?_, (R.pail p e).2⟩) (fun p u i h1 h2 => ?_) (fun p w => ?_), q⟩
    · rw [upd_ne (fun z => m.p (by rw [← z]; exact e))]; exact (R.pail p e).1
    · have ne : p ≠ a := fun z => n i u (by rw [← z]; exact h1) h2
      rw [upd_ne ne]; exact (R.ownB h1 h2).1.b
    · rw [upd_ne (fun z => m.f (by rw [← z]; exact w))]; exact (R.fb p w).2.1
  | @b a d i h1 h2 =>
    obtain ⟨m, h⟩ := R.ownB h1 h2
    obtain ⟨o, ho, e1, e2, q⟩ := h.tell m R.ex
    have hi : i < ρ.length := (List.getElem?_eq_some_iff.mp h2).1
    refine ⟨upd B a o, e1, ⟨e2, fun p e => ⟨?_, (R.pail p e).2⟩, R.ent, fun p w => ⟨(R.fb p w).1, by rw [upd_ne (fun z => m.f (by rw [← z]; exact w))]; exact (R.fb p w).2.1, (R.fb p w).2.2⟩, by simp [R.len, leak], fun j u s g1 g2 => ?_, fun j k p x y a1 a2 a3 a4 => ?_⟩, q⟩
    · rw [upd_ne (fun z => m.p (by rw [← z]; exact e))]; exact (R.pail p e).1
    · by_cases ji : j = i
      · subst ji
        rw [show leak d (.b j) ρ = ρ.set j (.sh d) from rfl, List.getElem?_set_self hi] at g2
        rw [h1] at g1; cases g1; cases g2
        exact .sh q
      · rw [show leak d (.b i) ρ = ρ.set i (.sh d) from rfl, List.getElem?_set_ne (Ne.symm ji)] at g2
        have z := R.sl j u s g1 g2
        cases z with
        | no => exact .no
        | sh z => exact .sh (z.mono e1)
        | @own p e m' z =>
          have ne : p ≠ a := fun w => ji (R.dj j i a e d (by rw [← w]; exact g1) g2 h1 h2)
          exact .own ⟨by rw [upd_ne ne]; exact m'.b, m'.p, m'.h, m'.f⟩ (z.mono e1 fun _ w => w)
    · have back : ∀ {j : Nat} {x : D}, (leak d (.b i) ρ)[j]? = some (.own x) → ρ[j]? = some (.own x) := fun {j x} w => by
        by_cases ji : j = i
        · subst ji
          rw [show leak d (.b j) ρ = ρ.set j (.sh d) from rfl, List.getElem?_set_self hi] at w; cases w
        · rwa [show leak d (.b i) ρ = ρ.set i (.sh d) from rfl, List.getElem?_set_ne (Ne.symm ji)] at w
      exact R.dj j k p x y a1 (back a2) a3 (back a4)
end
end Dc
set_option maxHeartbeats 1000000
/-! Data calculus 2: readings over plain data, and how they stand under the hand layer's. -/
namespace Dc
open PySem L2

/-- what is wanted of an error: its data, the state when it flies -/
abbrev XQ := D → Env → Prop
abbrev EQ := D → Tag → Env → Prop
abbrev RE := XQ → Env → EQ → Prop
abbrev RA := XQ → Env → (List D → Env → Prop) → Prop
abbrev RT := XQ → Env → (Bool → Env → Prop) → Prop
structure Kd where
  nx : Env → Prop
  rt : D → Tag → Env → Prop
  bk : Env → Prop := fun _ => False
  ct : Env → Prop := fun _ => False
  ex : XQ
abbrev RS := Kd → Env → Prop

/-- an error in flight: its class, its own dict -/
inductive XDen {T : Tx} (c : Dx T) (B : Hp) : Value → Option Addr → D → Prop
  | bare {n : Nat} : XDen c B (.ref (T.cl n)) none (.exc n [])
  | one {n : Nat} {p : Addr} {f : Str} {v : V} {d : D} : B p = some (.xd [(f, v)]) → Den c B v d → XDen c B (.ref (T.cl n)) (some p) (.exc n [d])

/-- the hand layer's wish W takes what x lets fly -/
def XW {T : Tx} (c : Dx T) (W : WX) (B : Hp) (x : XQ) : Prop :=
  ∀ d ρ' cls dd σ' B' H', x d ρ' → Ex B B' → Rel c σ' B' H' ρ' → XDen c B' cls dd d → W cls dd σ' H'
theorem XW.up {T : Tx} {c : Dx T} {W : WX} {B B' : Hp} {x : XQ} (h : XW c W B x) (e : Ex B B') : XW c W B' x := fun d ρ cls dd σ B2 H q e2 => h d ρ cls dd σ B2 H q (e.trans e2)
def noX : XQ := fun _ _ => False
theorem XW.no {T : Tx} {c : Dx T} {W : WX} {B : Hp} : XW c W B noX := fun _ _ _ _ _ _ _ q => q.elim

def liftE (T : Tx) (W : WX) (t : RE) : TE := fun σ H Q' => ∃ c : Dx T, ∃ B ρ x Q, Rel c σ B H ρ ∧ XW c W B x ∧ t x ρ Q ∧
  ∀ d g ρ' v B' H', Q d g ρ' → Ex B B' → ExP c H H' → Rel c σ B' H' ρ' → Tg c σ B' H' ρ' v d g → Q' v H'
def liftT (T : Tx) (W : WX) (t : RT) : TT := fun σ H Q' => ∃ c : Dx T, ∃ B ρ x Q, Rel c σ B H ρ ∧ XW c W B x ∧ t x ρ Q ∧
  ∀ b ρ' B' H', Q b ρ' → Ex B B' → ExP c H H' → Rel c σ B' H' ρ' → Q' b H'
/-- arguments told of for good; arguments looked into -/
def liftA (T : Tx) (W : WX) (t : RA) : TA := fun σ H Q' => ∃ c : Dx T, ∃ B ρ x Q, Rel c σ B H ρ ∧ XW c W B x ∧ t x ρ Q ∧
  ∀ ds ρ' vs B' H', Q ds ρ' → Ex B B' → ExP c H H' → Rel c σ B' H' ρ' → Dens c B' vs ds → Q' vs H'
inductive Tms {T : Tx} (c : Dx T) (B H : Hp) : List V → List D → Prop
  | nil : Tms c B H [] []
  | cons {v : V} {d : D} {vs : List V} {ds : List D} : Tm c B H v d → Tms c B H vs ds → Tms c B H (v :: vs) (d :: ds)
theorem Tms.mono {T : Tx} {c : Dx T} {B B' H H' : Hp} (e : Ex B B') (k : ExP c H H') : ∀ {vs : List V} {ds : List D}, Tms c B H vs ds → Tms c B' H' vs ds
  | _, _, .nil => .nil
  | _, _, .cons h r => .cons (h.mono e k) (r.mono e k)
def liftB (T : Tx) (W : WX) (t : RA) : TA := fun σ H Q' => ∃ c : Dx T, ∃ B ρ x Q, Rel c σ B H ρ ∧ XW c W B x ∧ t x ρ Q ∧
  ∀ ds ρ' vs B' H', Q ds ρ' → Ex B B' → ExP c H H' → Rel c σ B' H' ρ' → Tms c B' H' vs ds → Q' vs H'
def liftS (T : Tx) (W : WX) (t : RS) : TS := fun Dn σ H => ∃ c : Dx T, ∃ B ρ k, Rel c σ B H ρ ∧ XW c W B k.ex ∧ t k ρ ∧
  (∀ ρ' σ' B' H', k.nx ρ' → Ex B B' → Rel c σ' B' H' ρ' → Dn.nx σ' H') ∧
  (∀ d g ρ' v σ' B' H', k.rt d g ρ' → Ex B B' → Rel c σ' B' H' ρ' → Tg c σ' B' H' ρ' v d g → Dn.rt v H') ∧
  (∀ ρ' σ' B' H', k.bk ρ' → Ex B B' → Rel c σ' B' H' ρ' → Dn.bk σ' H') ∧
  (∀ ρ' σ' B' H', k.ct ρ' → Ex B B' → Rel c σ' B' H' ρ' → Dn.ct σ' H')

end Dc
namespace L2
theorem PE.imp {X : Cx} {e : PySem.Expr} {t t' : TE} (h : PE X e t) (k : ∀ σ H Q, t' σ H Q → t σ H Q) : PE X e t' := ⟨fun pins s σ H Q I q => h.run pins s σ H Q I (k σ H Q q)⟩
theorem PT.imp {X : Cx} {e : PySem.Expr} {t t' : TT} (h : PT X e t) (k : ∀ σ H Q, t' σ H Q → t σ H Q) : PT X e t' := ⟨fun pins s σ H Q I q => h.run pins s σ H Q I (k σ H Q q)⟩
theorem PW.imp {X : Cx} {e : PySem.Expr} {t t' : TT} (h : PW X e t) (k : ∀ σ H Q, t' σ H Q → t σ H Q) : PW X e t' := ⟨fun w pins s σ H Q I q => h.run w pins s σ H Q I (k σ H Q q)⟩
theorem PA.imp {X : Cx} {e : List PySem.Expr} {t t' : TA} (h : PA X e t) (k : ∀ σ H Q, t' σ H Q → t σ H Q) : PA X e t' := ⟨fun p pins s σ H Q I q => h.run p pins s σ H Q I (k σ H Q q)⟩
theorem PS.imp {X : Cx} {e : PySem.Stmt} {t t' : TS} (h : PS X e t) (k : ∀ D σ H, t' D σ H → t D σ H) : PS X e t' := ⟨fun pins s σ H D I q => h.run pins s σ H D I (k D σ H q)⟩
theorem PSs.imp {X : Cx} {e : List PySem.Stmt} {t t' : TS} (h : PSs X e t) (k : ∀ D σ H, t' D σ H → t D σ H) : PSs X e t' := ⟨fun pins s σ H D I q => h.run pins s σ H D I (k D σ H q)⟩
end L2
namespace Dc
open PySem L2

/-! ### results of primitives -/
/-- a primitive hands on v, worth d, the heap behind it being H' -/
def Res {T : Tx} (c : Dx T) (B H H' : Hp) (v : V) (d : D) (g : Tag) : Prop :=
  ∃ B', Ex B B' ∧ Ex H H' ∧ ∀ σ ρ, Rel c σ B H ρ → Rel c σ B' H' ρ ∧ Tg c σ B' H' ρ v d g
section
variable {T : Tx} {c : Dx T} {B H : Hp} {v : V} {d : D} {p : Addr}
theorem Res.den (h : Den c B v d) : Res c B H H v d .p := ⟨B, Ex.rfl', Ex.rfl', fun _ _ R => ⟨R, .p h⟩⟩
theorem Res.int (i : Int) : Res c B H H (.int i) (.int i) .p := Res.den (.int i)
theorem Res.str (i : Str) : Res c B H H (.str i) (.str i) .p := Res.den (.str i)
theorem Res.bl (i : Bool) : Res c B H H (.bl i) (.bl i) .p := Res.den (.bl i)
theorem Res.newT {xs : List V} {ds : List D} (ex : Ex B H) (hp : H p = none) (r : Dens c B xs ds) : Res c B H (upd H p (.tup xs)) (.ref p) (.tup ds) .p :=
  ⟨upd B p (.tup xs), Ex.new (ex.free hp), Ex.new hp, fun _ _ R => ⟨R.newB hp, .p (.tup (.inl (.inl upd_same)) (r.mono (Ex.new (ex.free hp))))⟩⟩
theorem Res.newO {o : HO} {d : D} (ex : Ex B H) (hp : H p = none) (r : OwnAt c B (upd H p o) p d) : Res c B H (upd H p o) (.ref p) d .f := by
  refine ⟨B, Ex.rfl', Ex.new hp, fun σ ρ R => ?_⟩
  have m := R.mine hp
  refine ⟨R.newH hp, .f m r fun i e h1 h2 => ?_⟩
  exact Mine.ne (R.ownB h1 h2).2 hp rfl
theorem Res.newL {xs : List V} {ds : List D} (ex : Ex B H) (hp : H p = none) (r : Dens c B xs ds) : Res c B H (upd H p (.lst xs)) (.ref p) (.lst ds) .f := Res.newO ex hp (.lst upd_same r)
theorem Res.newD {xs : List (Key × V)} {ds : List (Key × D)} (ex : Ex B H) (hp : H p = none) (r : DenK c B xs ds) : Res c B H (upd H p (.dK xs)) (.ref p) (.dic ds) .f := Res.newO ex hp (.dic upd_same r)
end
/-- a rule on two values, on one, on a list of them: what it asks of data -/
def P2 (T : Tx) (r : R2) (f : D → D → (D → Tag → Prop) → Prop) : Prop := ∀ (c : Dx T) (B H : Hp) (v1 v2 : V) (d1 d2 : D) (k : D → Tag → Prop) (Q' : VK), Ex B H → Tm c B H v1 d1 → Tm c B H v2 d2 → f d1 d2 k →
  (∀ d g v H', k d g → Res c B H H' v d g → Q' v H') → r v1 v2 H Q'
def P1 (T : Tx) (r : V → Hp → VK → Prop) (f : D → (D → Tag → Prop) → Prop) : Prop := ∀ (c : Dx T) (B H : Hp) (v1 : V) (d1 : D) (k : D → Tag → Prop) (Q' : VK), Ex B H → Tm c B H v1 d1 → f d1 k →
  (∀ d g v H', k d g → Res c B H H' v d g → Q' v H') → r v1 H Q'
def PN (T : Tx) (r : List V → Hp → VK → Prop) (f : List D → (D → Tag → Prop) → Prop) : Prop := ∀ (c : Dx T) (B H : Hp) (vs : List V) (ds : List D) (k : D → Tag → Prop) (Q' : VK), Ex B H → Tms c B H vs ds → f ds k →
  (∀ d g v H', k d g → Res c B H H' v d g → Q' v H') → r vs H Q'
/-- a method: the receiver, the arguments -/
def PM (T : Tx) (r : V → List V → Hp → VK → Prop) (f : D → List D → (D → Tag → Prop) → Prop) : Prop := ∀ (c : Dx T) (B H : Hp) (v : V) (d1 : D) (vs : List V) (ds : List D) (k : D → Tag → Prop) (Q' : VK), Ex B H → Tm c B H v d1 → Tms c B H vs ds → f d1 ds k →
  (∀ d g v H', k d g → Res c B H H' v d g → Q' v H') → r v vs H Q'

/-! ### readings -/
def slot (ρ : Env) (i : Nat) (Q : D → Tag → Prop) : Prop := match ρ[i]? with
  | some (.sh d) => Q d .p
  | some (.own d) => Q d (.b i)
  | _ => False
def dVar (i : Nat) : RE := fun _ ρ Q => slot ρ i fun d g => Q d g ρ
def dC (d : D) : RE := fun _ ρ Q => Q d .p ρ
def dOp (f : D → D → (D → Tag → Prop) → Prop) (ta tb : RE) : RE := fun x ρ Q => ta x ρ fun d1 _ ρ1 => tb x ρ1 fun d2 _ ρ2 => f d1 d2 fun d g => Q d g ρ2
def dUn (f : D → (D → Tag → Prop) → Prop) (ta : RE) : RE := fun x ρ Q => ta x ρ fun d1 _ ρ1 => f d1 fun d g => Q d g ρ1
def dNil : RA := fun _ ρ Q => Q [] ρ
def dCons (ta : RE) (tr : RA) : RA := fun x ρ Q => ta x ρ fun d g ρ1 => tr x (leak d g ρ1) fun ds ρ2 => Q (d :: ds) ρ2
def dConsB (ta : RE) (tr : RA) : RA := fun x ρ Q => ta x ρ fun d _ ρ1 => tr x ρ1 fun ds ρ2 => Q (d :: ds) ρ2
def items : D → (List D → Prop) → Prop
  | .lst ds, k => k ds
  | .tup ds, k => k ds
  | _, _ => False
def dStar (ta : RE) (tr : RA) : RA := fun x ρ Q => ta x ρ fun d _ ρ1 => items d fun es => tr x ρ1 fun ds ρ2 => Q (es ++ ds) ρ2
def dTup (t : RA) : RE := fun x ρ Q => t x ρ fun ds ρ1 => ds.length ≤ sizeLine ∧ Q (.tup ds) .p ρ1
def dLst (t : RA) : RE := fun x ρ Q => t x ρ fun ds ρ1 => ds.length ≤ sizeLine ∧ Q (.lst ds) .f ρ1
def dCall (f : List D → (D → Tag → Prop) → Prop) (t : RA) : RE := fun x ρ Q => t x ρ fun ds ρ1 => f ds fun d g => Q d g ρ1
def dMet (f : D → List D → (D → Tag → Prop) → Prop) (to : RE) (t : RA) : RE := fun x ρ Q => to x ρ fun d1 _ ρ1 => t x ρ1 fun ds ρ2 => f d1 ds fun d g => Q d g ρ2
def dIf (tc : RT) (ta tb : RE) : RE := fun x ρ Q => tc x ρ fun b ρ1 => if b = true then ta x ρ1 Q else tb x ρ1 Q
def blOf : D → (Bool → Prop) → Prop
  | .bl b, k => k b
  | _, _ => False
def dAndV (ta tb : RE) : RE := fun x ρ Q => ta x ρ fun d _ ρ1 => blOf d fun b => if b = true then tb x ρ1 Q else Q (.bl false) .p ρ1
def dOrV (ta tb : RE) : RE := fun x ρ Q => ta x ρ fun d _ ρ1 => blOf d fun b => if b = true then Q (.bl true) .p ρ1 else tb x ρ1 Q
def dNotV (ta : RE) : RE := fun x ρ Q => ta x ρ fun d _ ρ1 => blOf d fun b => Q (.bl (!b)) .p ρ1
def dTest (ta : RE) : RT := fun x ρ Q => ta x ρ fun d _ ρ1 => blOf d fun b => Q b ρ1
def dAnd (ta tb : RT) : RT := fun x ρ Q => ta x ρ fun b ρ1 => if b = true then tb x ρ1 Q else Q false ρ1
def dOr (ta tb : RT) : RT := fun x ρ Q => ta x ρ fun b ρ1 => if b = true then Q true ρ1 else tb x ρ1 Q
def dNot (ta : RT) : RT := fun x ρ Q => ta x ρ fun b ρ1 => Q (!b) ρ1
/-- a value's truth -/
def truth : D → (Bool → Prop) → Prop
  | .non, k => k false
  | .bl b, k => k b
  | .int i, k => k (i != 0)
  | .str x, k => x.length ≤ sizeLine ∧ k ((x.length : Int) != 0)
  | .lst ds, k => k (!ds.isEmpty)
  | .tup ds, k => k (!ds.isEmpty)
  | .dic ds, k => k (!ds.isEmpty)
  | _, _ => False
def dTruth (ta : RE) : RT := fun x ρ Q => ta x ρ fun d _ ρ1 => truth d fun b => Q b ρ1
def dChain (f g : D → D → (D → Tag → Prop) → Prop) (ta tb tc : RE) : RE := fun x ρ Q => ta x ρ fun d1 _ ρ1 => tb x ρ1 fun d2 _ ρ2 => f d1 d2 fun d _ => blOf d fun b =>
  if b = true then tc x ρ2 fun d3 _ ρ3 => g d2 d3 fun d t => Q d t ρ3 else Q (.bl false) .p ρ2

section
variable {T : Tx} {W : WX} {ta tb tc : RE}
theorem le_var {i : Nat} : ∀ σ H Q', liftE T W (dVar i) σ H Q' → tVar i σ H Q' := by
  rintro σ H Q' ⟨c, B, ρ, x, Q, R, X, h, q⟩
  unfold dVar slot at h
  split at h
  · rename_i d e
    have hi : i < σ.length := by rw [R.len]; exact (List.getElem?_eq_some_iff.mp e).1
    obtain ⟨o, ho⟩ : ∃ o, σ[i]? = some o := ⟨σ[i], by simp [hi]⟩
    have s := R.sl i o _ ho e
    cases s with
    | @sh v _ s => exact ⟨v, ho, q _ _ _ v B H h Ex.rfl' ExP.rfl' R (.p s)⟩
  · rename_i d e
    have hi : i < σ.length := by rw [R.len]; exact (List.getElem?_eq_some_iff.mp e).1
    obtain ⟨o, ho⟩ : ∃ o, σ[i]? = some o := ⟨σ[i], by simp [hi]⟩
    have s := R.sl i o _ ho e
    cases s with
    | @own a _ m s => exact ⟨.ref a, ho, q _ _ _ _ B H h Ex.rfl' ExP.rfl' R (.b ho e)⟩
  · exact h.elim
theorem le_c {v : V} {d : D} (hv : ∀ (c : Dx T) B, Den c B v d) : ∀ σ H Q', liftE T W (dC d) σ H Q' → tC v σ H Q' := by
  rintro σ H Q' ⟨c, B, ρ, x, Q, R, X, h, q⟩
  exact q _ _ _ v B H h Ex.rfl' ExP.rfl' R (.p (hv c B))
/-- what a primitive hands on, handed to what is wanted -/
theorem res_to {c : Dx T} {σ : St} {H : Hp} {Q' : VK} {B : Hp} {ρ : Env} {Q : EQ} (R : Rel c σ B H ρ) {v : V} {d : D} {g : Tag} {H' : Hp} (q : ∀ d g ρ' v B' H', Q d g ρ' → Ex B B' → ExP c H H' → Rel c σ B' H' ρ' → Tg c σ B' H' ρ' v d g → Q' v H')
    (hq : Q d g ρ) (r : Res c B H H' v d g) : Q' v H' := by
  obtain ⟨B', e1, e2, r⟩ := r
  obtain ⟨R', t⟩ := r σ ρ R
  exact q d g ρ v B' H' hq e1 e2.p R' t
theorem le_op {r : R2} {f : D → D → (D → Tag → Prop) → Prop} (p : P2 T r f) : ∀ σ H Q', liftE T W (dOp f ta tb) σ H Q' → tOp r (liftE T W ta) (liftE T W tb) σ H Q' := by
  rintro σ H Q' ⟨c, B, ρ, x, Q, R, X, h, q⟩
  refine ⟨c, B, ρ, x, _, R, X, h, fun d1 g1 ρ1 v1 B1 H1 h1 e1 k1 R1 t1 => ⟨c, B1, ρ1, x, _, R1, X.up e1, h1, fun d2 g2 ρ2 v2 B2 H2 h2 e2 k2 R2 t2 => ?_⟩⟩
  refine p c B2 H2 v1 v2 d1 d2 _ Q' R2.ex ((t1.tm R1).mono e2 k2) (t2.tm R2) h2 fun d g v H' hq r => ?_
  exact res_to R2 (fun d g ρ' v B' H' hQ e k R' t => q d g ρ' v B' H' hQ ((e1.trans e2).trans e) ((k1.trans k2).trans k) R' t) hq r
theorem le_un {r : V → Hp → VK → Prop} {f : D → (D → Tag → Prop) → Prop} (p : P1 T r f) : ∀ σ H Q', liftE T W (dUn f ta) σ H Q' → tUn r (liftE T W ta) σ H Q' := by
  rintro σ H Q' ⟨c, B, ρ, x, Q, R, X, h, q⟩
  refine ⟨c, B, ρ, x, _, R, X, h, fun d1 g1 ρ1 v1 B1 H1 h1 e1 k1 R1 t1 => ?_⟩
  refine p c B1 H1 v1 d1 _ Q' R1.ex (t1.tm R1) h1 fun d g v H' hq r => ?_
  exact res_to R1 (fun d g ρ' v B' H' hQ e k R' t => q d g ρ' v B' H' hQ (e1.trans e) (k1.trans k) R' t) hq r
/-! arguments -/
theorem la_nil : ∀ σ H Q', liftA T W dNil σ H Q' → tNil σ H Q' := by
  rintro σ H Q' ⟨c, B, ρ, x, Q, R, X, h, q⟩
  exact q _ _ _ B H h Ex.rfl' ExP.rfl' R .nil
theorem lb_nil : ∀ σ H Q', liftB T W dNil σ H Q' → tNil σ H Q' := by
  rintro σ H Q' ⟨c, B, ρ, x, Q, R, X, h, q⟩
  exact q _ _ _ B H h Ex.rfl' ExP.rfl' R .nil
theorem la_cons {tr : RA} : ∀ σ H Q', liftA T W (dCons ta tr) σ H Q' → tCons (liftE T W ta) (liftA T W tr) σ H Q' := by
  rintro σ H Q' ⟨c, B, ρ, x, Q, R, X, h, q⟩
  refine ⟨c, B, ρ, x, _, R, X, h, fun d1 g1 ρ1 v1 B1 H1 h1 e1 k1 R1 t1 => ?_⟩
  obtain ⟨B2, e2, R2, n1⟩ := leak_ok R1 t1
  refine ⟨c, B2, _, x, _, R2, (X.up e1).up e2, h1, fun ds ρ2 vs B3 H3 h3 e3 k3 R3 t3 => ?_⟩
  exact q _ _ _ B3 H3 h3 ((e1.trans e2).trans e3) (k1.trans k3) R3 (.cons (n1.mono e3) t3)
theorem lb_cons {tr : RA} : ∀ σ H Q', liftB T W (dConsB ta tr) σ H Q' → tCons (liftE T W ta) (liftB T W tr) σ H Q' := by
  rintro σ H Q' ⟨c, B, ρ, x, Q, R, X, h, q⟩
  refine ⟨c, B, ρ, x, _, R, X, h, fun d1 g1 ρ1 v1 B1 H1 h1 e1 k1 R1 t1 => ?_⟩
  refine ⟨c, B1, _, x, _, R1, X.up e1, h1, fun ds ρ2 vs B3 H3 h3 e3 k3 R3 t3 => ?_⟩
  exact q _ _ _ B3 H3 h3 (e1.trans e3) (k1.trans k3) R3 (.cons ((t1.tm R1).mono e3 k3) t3)
theorem la_star {tr : RA} : ∀ σ H Q', liftA T W (dStar ta tr) σ H Q' → StX.tStar T.K (liftE T W ta) (liftA T W tr) σ H Q' := by
  rintro σ H Q' ⟨c, B, ρ, x, Q, R, X, h, q⟩
  refine ⟨c, B, ρ, x, _, R, X, h, fun d1 g1 ρ1 v1 B1 H1 h1 e1 k1 R1 t1 => ?_⟩
  have tm := t1.tm R1
  cases d1 <;> first | exact h1.elim | skip
  case tup ds =>
    obtain ⟨a, xs, rfl, hs, r⟩ := tm.tuple R1.ex
    refine ⟨a, xs, rfl, .inl hs, c, B1, ρ1, x, _, R1, X.up e1, h1, fun es ρ2 vs B3 H3 h3 e3 k3 R3 t3 => ?_⟩
    exact q _ _ _ B3 H3 h3 (e1.trans e3) (k1.trans k3) R3 ((r.mono e3).append t3)
  case lst ds =>
    obtain ⟨a, xs, rfl, hs, r⟩ := tm.list R1.ex
    refine ⟨a, xs, rfl, .inr (.inl (.inl hs)), c, B1, ρ1, x, _, R1, X.up e1, h1, fun es ρ2 vs B3 H3 h3 e3 k3 R3 t3 => ?_⟩
    exact q _ _ _ B3 H3 h3 (e1.trans e3) (k1.trans k3) R3 ((r.mono e3).append t3)
theorem le_tup {t : RA} : ∀ σ H Q', liftE T W (dTup t) σ H Q' → tTup (liftA T W t) σ H Q' := by
  rintro σ H Q' ⟨c, B, ρ, x, Q, R, X, h, q⟩
  refine ⟨c, B, ρ, x, _, R, X, h, fun ds ρ1 vs B1 H1 h1 e1 k1 R1 t1 => ⟨by rw [t1.length]; exact h1.1, fun p hp => ?_⟩⟩
  exact res_to R1 (fun d g ρ' v B' H' hQ e k R' t => q d g ρ' v B' H' hQ (e1.trans e) (k1.trans k) R' t) h1.2 (Res.newT R1.ex hp t1)
theorem le_lst {t : RA} : ∀ σ H Q', liftE T W (dLst t) σ H Q' → tLst (liftA T W t) σ H Q' := by
  rintro σ H Q' ⟨c, B, ρ, x, Q, R, X, h, q⟩
  refine ⟨c, B, ρ, x, _, R, X, h, fun ds ρ1 vs B1 H1 h1 e1 k1 R1 t1 => ⟨by rw [t1.length]; exact h1.1, fun p hp => ?_⟩⟩
  exact res_to R1 (fun d g ρ' v B' H' hQ e k R' t => q d g ρ' v B' H' hQ (e1.trans e) (k1.trans k) R' t) h1.2 (Res.newL R1.ex hp t1)
/-- a built-in function -/
theorem le_callB {r : List V → Hp → VK → Prop} {f : List D → (D → Tag → Prop) → Prop} {t : RA} (p : PN T r f) : ∀ σ H Q', liftE T W (dCall f t) σ H Q' → tCB r (liftB T W t) σ H Q' := by
  rintro σ H Q' ⟨c, B, ρ, x, Q, R, X, h, q⟩
  refine ⟨c, B, ρ, x, _, R, X, h, fun ds ρ1 vs B1 H1 h1 e1 k1 R1 t1 => ?_⟩
  refine p c B1 H1 vs ds _ Q' R1.ex t1 h1 fun d g v H' hq r => ?_
  exact res_to R1 (fun d g ρ' v B' H' hQ e k R' t => q d g ρ' v B' H' hQ (e1.trans e) (k1.trans k) R' t) hq r
/-! tests -/
theorem le_if {t : RT} : ∀ σ H Q', liftE T W (dIf t ta tb) σ H Q' → tIf (liftT T W t) (liftE T W ta) (liftE T W tb) σ H Q' := by
  rintro σ H Q' ⟨c, B, ρ, x, Q, R, X, h, q⟩
  refine ⟨c, B, ρ, x, _, R, X, h, fun b ρ1 B1 H1 h1 e1 k1 R1 => ?_⟩
  have go : ∀ {t : RE}, t x ρ1 Q → liftE T W t σ H1 Q' := fun {t} h => ⟨c, B1, ρ1, x, Q, R1, X.up e1, h, fun d g ρ' v B' H' hQ e k R' t => q d g ρ' v B' H' hQ (e1.trans e) (k1.trans k) R' t⟩
  cases b with
  | true => exact go h1
  | false => exact go h1
theorem le_andV : ∀ σ H Q', liftE T W (dAndV ta tb) σ H Q' → tAndV (liftE T W ta) (liftE T W tb) σ H Q' := by
  rintro σ H Q' ⟨c, B, ρ, x, Q, R, X, h, q⟩
  refine ⟨c, B, ρ, x, _, R, X, h, fun d1 g1 ρ1 v1 B1 H1 h1 e1 k1 R1 t1 => ?_⟩
  cases d1 <;> first | exact h1.elim | skip
  case bl b =>
    have ev := (t1.tm R1).bl_; subst ev
    refine ⟨b, rfl, ?_⟩
    cases b with
    | true => exact ⟨c, B1, ρ1, x, Q, R1, X.up e1, h1, fun d g ρ' v B' H' hQ e k R' t => q d g ρ' v B' H' hQ (e1.trans e) (k1.trans k) R' t⟩
    | false => exact q _ _ _ _ B1 H1 h1 e1 k1 R1 (.p (.bl false))
theorem le_orV : ∀ σ H Q', liftE T W (dOrV ta tb) σ H Q' → tOrV (liftE T W ta) (liftE T W tb) σ H Q' := by
  rintro σ H Q' ⟨c, B, ρ, x, Q, R, X, h, q⟩
  refine ⟨c, B, ρ, x, _, R, X, h, fun d1 g1 ρ1 v1 B1 H1 h1 e1 k1 R1 t1 => ?_⟩
  cases d1 <;> first | exact h1.elim | skip
  case bl b =>
    have ev := (t1.tm R1).bl_; subst ev
    refine ⟨b, rfl, ?_⟩
    cases b with
    | false => exact ⟨c, B1, ρ1, x, Q, R1, X.up e1, h1, fun d g ρ' v B' H' hQ e k R' t => q d g ρ' v B' H' hQ (e1.trans e) (k1.trans k) R' t⟩
    | true => exact q _ _ _ _ B1 H1 h1 e1 k1 R1 (.p (.bl true))
theorem le_notV : ∀ σ H Q', liftE T W (dNotV ta) σ H Q' → tNotV (liftE T W ta) σ H Q' := by
  rintro σ H Q' ⟨c, B, ρ, x, Q, R, X, h, q⟩
  refine ⟨c, B, ρ, x, _, R, X, h, fun d1 g1 ρ1 v1 B1 H1 h1 e1 k1 R1 t1 => ?_⟩
  cases d1 <;> first | exact h1.elim | skip
  case bl b =>
    have ev := (t1.tm R1).bl_; subst ev
    exact ⟨b, rfl, q _ _ _ _ B1 H1 h1 e1 k1 R1 (.p (.bl _))⟩
theorem lt_test : ∀ σ H Q', liftT T W (dTest ta) σ H Q' → tB (liftE T W ta) σ H Q' := by
  rintro σ H Q' ⟨c, B, ρ, x, Q, R, X, h, q⟩
  refine ⟨c, B, ρ, x, _, R, X, h, fun d1 g1 ρ1 v1 B1 H1 h1 e1 k1 R1 t1 => ?_⟩
  cases d1 <;> first | exact h1.elim | skip
  case bl b =>
    have ev := (t1.tm R1).bl_; subst ev
    exact ⟨b, rfl, q _ _ B1 H1 h1 e1 k1 R1⟩
/-- a comparison as a test -/
theorem lt_cmp {r : R2} {f : D → D → (D → Tag → Prop) → Prop} (p : P2 T r f) : ∀ σ H Q', liftT T W (dTest (dOp f ta tb)) σ H Q' → tTest (tOp r (liftE T W ta) (liftE T W tb)) σ H Q' := by
  rintro σ H Q' h
  have z := lt_test σ H Q' h
  exact le_op p σ H _ z
theorem lt_and {t u : RT} : ∀ σ H Q', liftT T W (dAnd t u) σ H Q' → tAnd (liftT T W t) (liftT T W u) σ H Q' := by
  rintro σ H Q' ⟨c, B, ρ, x, Q, R, X, h, q⟩
  refine ⟨c, B, ρ, x, _, R, X, h, fun b ρ1 B1 H1 h1 e1 k1 R1 => ?_⟩
  cases b with
  | true => exact ⟨c, B1, ρ1, x, Q, R1, X.up e1, h1, fun b ρ' B' H' hQ e k R' => q b ρ' B' H' hQ (e1.trans e) (k1.trans k) R'⟩
  | false => exact q _ _ B1 H1 h1 e1 k1 R1
theorem lt_or {t u : RT} : ∀ σ H Q', liftT T W (dOr t u) σ H Q' → tOr (liftT T W t) (liftT T W u) σ H Q' := by
  rintro σ H Q' ⟨c, B, ρ, x, Q, R, X, h, q⟩
  refine ⟨c, B, ρ, x, _, R, X, h, fun b ρ1 B1 H1 h1 e1 k1 R1 => ?_⟩
  cases b with
  | false => exact ⟨c, B1, ρ1, x, Q, R1, X.up e1, h1, fun b ρ' B' H' hQ e k R' => q b ρ' B' H' hQ (e1.trans e) (k1.trans k) R'⟩
  | true => exact q _ _ B1 H1 h1 e1 k1 R1
theorem lt_not {t : RT} : ∀ σ H Q', liftT T W (dNot t) σ H Q' → tNot (liftT T W t) σ H Q' := by
  rintro σ H Q' ⟨c, B, ρ, x, Q, R, X, h, q⟩
  exact ⟨c, B, ρ, x, _, R, X, h, fun b ρ1 B1 H1 h1 e1 k1 R1 => q _ _ B1 H1 h1 e1 k1 R1⟩
theorem isE {α β : Type} {xs : List α} {ds : List β} (h : xs.length = ds.length) : (!xs.isEmpty) = !ds.isEmpty := by
  cases xs <;> cases ds <;> first | rfl | (simp at h)
theorem lt_truth : ∀ σ H Q', liftT T W (dTruth ta) σ H Q' → liftE T W ta σ H fun x H' => ∃ k, TruV T.K x H' k ∧ Q' k H' := by
  rintro σ H Q' ⟨c, B, ρ, x, Q, R, X, h, q⟩
  refine ⟨c, B, ρ, x, _, R, X, h, fun d1 g1 ρ1 v1 B1 H1 h1 e1 k1 R1 t1 => ?_⟩
  have tm := t1.tm R1
  cases d1 <;> first | exact h1.elim | skip
  case non => have e := tm.non_; subst e; exact ⟨_, rfl, q _ _ B1 H1 h1 e1 k1 R1⟩
  case bl b => have e := tm.bl_; subst e; exact ⟨_, rfl, q _ _ B1 H1 h1 e1 k1 R1⟩
  case int b => have e := tm.int_; subst e; exact ⟨_, rfl, q _ _ B1 H1 h1 e1 k1 R1⟩
  case str b => have e := tm.str_; subst e; exact ⟨_, ⟨h1.1, rfl⟩, q _ _ B1 H1 h1.2 e1 k1 R1⟩
  case lst ds =>
    obtain ⟨a, xs, rfl, hs, r⟩ := tm.list R1.ex
    exact ⟨_, .inl ⟨xs, .inl (.inl hs), (isE r.length).symm⟩, q _ _ B1 H1 h1 e1 k1 R1⟩
  case tup ds =>
    obtain ⟨a, xs, rfl, hs, r⟩ := tm.tuple R1.ex
    exact ⟨_, .inr (.inl ⟨xs, hs, (isE r.length).symm⟩), q _ _ B1 H1 h1 e1 k1 R1⟩
  case dic ds =>
    obtain ⟨a, xs, rfl, hs, r⟩ := tm.dict R1.ex
    exact ⟨_, .inr (.inr ⟨xs, hs, (isE r.length).symm⟩), q _ _ B1 H1 h1 e1 k1 R1⟩
theorem le_chain {r r' : R2} {f g : D → D → (D → Tag → Prop) → Prop} (p : P2 T r f) (p' : P2 T r' g) : ∀ σ H Q', liftE T W (dChain f g ta tb tc) σ H Q' → tChain r r' (liftE T W ta) (liftE T W tb) (liftE T W tc) σ H Q' := by
  rintro σ H Q' ⟨c, B, ρ, x, Q, R, X, h, q⟩
  refine ⟨c, B, ρ, x, _, R, X, h, fun d1 g1 ρ1 v1 B1 H1 h1 e1 k1 R1 t1 => ⟨c, B1, ρ1, x, _, R1, X.up e1, h1, fun d2 g2 ρ2 v2 B2 H2 h2 e2 k2 R2 t2 => ?_⟩⟩
  refine p c B2 H2 v1 v2 d1 d2 _ _ R2.ex ((t1.tm R1).mono e2 k2) (t2.tm R2) h2 fun d t v H' hq r => ?_
  obtain ⟨B3, e3, e3', r3⟩ := r
  obtain ⟨R3, t3⟩ := r3 σ ρ2 R2
  cases d <;> first | exact hq.elim | skip
  case bl b =>
    have ev := (t3.tm R3).bl_; subst ev
    refine ⟨b, rfl, ?_⟩
    cases b with
    | true =>
      refine ⟨c, B3, ρ2, x, _, R3, (X.up e1).up (e2.trans e3), hq, fun d4 g4 ρ4 v4 B4 H4 h4 e4 k4 R4 t4 => ?_⟩
      refine p' c B4 H4 v2 v4 d2 d4 _ Q' R4.ex (((t2.tm R2).mono e3 e3'.p).mono e4 k4) (t4.tm R4) h4 fun d g v H' hq r => ?_
      exact res_to R4 (fun d g ρ' v B' H' hQ e k R' t => q d g ρ' v B' H' hQ ((e1.trans e2).trans ((e3.trans e4).trans e)) ((k1.trans k2).trans ((e3'.p.trans k4).trans k)) R' t) hq r
    | false => exact q _ _ _ _ B3 H' hq ((e1.trans e2).trans e3) ((k1.trans k2).trans e3'.p) R3 (.p (.bl false))
theorem lt_chain {r r' : R2} {f g : D → D → (D → Tag → Prop) → Prop} (p : P2 T r f) (p' : P2 T r' g) : ∀ σ H Q', liftT T W (dTest (dChain f g ta tb tc)) σ H Q' → tTest (tChain r r' (liftE T W ta) (liftE T W tb) (liftE T W tc)) σ H Q' := by
  rintro σ H Q' h
  exact le_chain p p' σ H _ (lt_test σ H Q' h)
end
end Dc
set_option maxHeartbeats 1000000
/-! Data calculus 3: statements, what is walked, comprehensions. -/
namespace Dc
open PySem L2

/-! ### targets -/
abbrev RG := D → Env → (Env → Prop) → Prop
abbrev RGs := List D → Env → (Env → Prop) → Prop
/-- σ' differs from σ at js alone -/
def Only (js : List Nat) (σ σ' : St) : Prop := σ'.length = σ.length ∧ ∀ i, i ∉ js → σ'[i]? = σ[i]?
theorem Only.refl {js : List Nat} {σ : St} : Only js σ σ := ⟨rfl, fun _ _ => rfl⟩
theorem Only.trans {js ks : List Nat} {σ σ1 σ2 : St} (a : Only js σ σ1) (b : Only ks σ1 σ2) : Only (js ++ ks) σ σ2 :=
  ⟨b.1.trans a.1, fun i h => (b.2 i fun q => h (List.mem_append_right _ q)).trans (a.2 i fun q => h (List.mem_append_left _ q))⟩
def liftG (T : Tx) (js : List Nat) (g : RG) : TG := fun v σ H Q' => ∃ c : Dx T, ∃ B ρ d Q, Rel c σ B H ρ ∧ Den c B v d ∧ g d ρ Q ∧
  ∀ ρ' σ' B' H', Q ρ' → Ex B B' → ExP c H H' → Rel c σ' B' H' ρ' → Only js σ σ' → Q' σ' H'
def liftGs (T : Tx) (js : List Nat) (g : RGs) : TGs := fun vs σ H Q' => ∃ c : Dx T, ∃ B ρ ds Q, Rel c σ B H ρ ∧ Dens c B vs ds ∧ g ds ρ Q ∧
  ∀ ρ' σ' B' H', Q ρ' → Ex B B' → ExP c H H' → Rel c σ' B' H' ρ' → Only js σ σ' → Q' σ' H'
def gN (i : Nat) : RG := fun d ρ Q => i < ρ.length ∧ Q (ρ.set i (.sh d))
def gsNil : RGs := fun ds ρ Q => match ds with
  | [] => Q ρ
  | _ => False
def gsCons (g : RG) (gs : RGs) : RGs := fun ds ρ Q => match ds with
  | d :: r => g d ρ fun ρ1 => gs r ρ1 Q
  | _ => False
def gT (n : Nat) (gs : RGs) : RG := fun d ρ Q => match d with
  | .tup ds => ds.length = n ∧ gs ds ρ Q
  | _ => False
def gL (n : Nat) (gs : RGs) : RG := fun d ρ Q => match d with
  | .lst ds => ds.length = n ∧ gs ds ρ Q
  | _ => False

section
variable {T : Tx} {c : Dx T} {σ : St} {B H : Hp} {ρ : Env}
/-- a slot takes a value that is told of -/
theorem Rel.setSh (R : Rel c σ B H ρ) (i : Nat) {v : V} {d : D} (h : Den c B v d) : Rel c (σ.set i (some v)) B H (ρ.set i (.sh d)) where
  ex := R.ex
  pail := R.pail
  ent := R.ent
  fb := R.fb
  len := by simp [R.len]
  sl := fun j o s h1 h2 => by
    by_cases ji : i = j
    · subst ji
      have hi : i < σ.length := by have := (List.getElem?_eq_some_iff.mp h1).1; simpa using this
      rw [List.getElem?_set_self hi] at h1
      rw [List.getElem?_set_self (by rw [← R.len]; exact hi)] at h2
      cases h1; cases h2
      exact .sh h
    · rw [List.getElem?_set_ne ji] at h1 h2
      exact R.sl j o s h1 h2
  dj := fun j k a x y a1 a2 a3 a4 => by
    have go : ∀ {j : Nat} {x : D}, (ρ.set i (.sh d))[j]? = some (.own x) → j ≠ i ∧ ρ[j]? = some (.own x) := fun {j x} w => by
      by_cases ji : i = j
      · subst ji
        by_cases hi : i < ρ.length
        · rw [List.getElem?_set_self hi] at w; cases w
        · rw [List.getElem?_eq_none (by simpa using hi)] at w; cases w
      · rw [List.getElem?_set_ne ji] at w; exact ⟨Ne.symm ji, w⟩
    obtain ⟨n1, b1⟩ := go a2
    obtain ⟨n2, b2⟩ := go a4
    rw [List.getElem?_set_ne (Ne.symm n1)] at a1
    rw [List.getElem?_set_ne (Ne.symm n2)] at a3
    exact R.dj j k a x y a1 b1 a3 b2
/-- a slot takes a new thing of our own -/
theorem Rel.setOwn (R : Rel c σ B H ρ) (i : Nat) {a : Addr} {d : D} (m : Mine c B a) (h : OwnAt c B H a d) (n : ∀ (i : Nat) (e : D), σ[i]? = some (some (.ref a)) → ρ[i]? = some (.own e) → False) :
    Rel c (σ.set i (some (.ref a))) B H (ρ.set i (.own d)) where
  ex := R.ex
  pail := R.pail
  ent := R.ent
  fb := R.fb
  len := by simp [R.len]
  sl := fun j o s h1 h2 => by
    by_cases ji : i = j
    · subst ji
      have hi : i < σ.length := by have := (List.getElem?_eq_some_iff.mp h1).1; simpa using this
      rw [List.getElem?_set_self hi] at h1
      rw [List.getElem?_set_self (by rw [← R.len]; exact hi)] at h2
      cases h1; cases h2
      exact .own m h
    · rw [List.getElem?_set_ne ji] at h1 h2
      exact R.sl j o s h1 h2
  dj := fun j k b x y a1 a2 a3 a4 => by
    have go : ∀ {j : Nat} {x : D}, (σ.set i (some (.ref a)))[j]? = some (some (.ref b)) → (ρ.set i (.own d))[j]? = some (.own x) → (j = i ∧ a = b) ∨ (j ≠ i ∧ σ[j]? = some (some (.ref b)) ∧ ρ[j]? = some (.own x)) := fun {j x} w1 w2 => by
      by_cases ji : i = j
      · subst ji
        have hi : i < σ.length := by have := (List.getElem?_eq_some_iff.mp w1).1; simpa using this
        rw [List.getElem?_set_self hi] at w1
        injection w1 with w1; injection w1 with w1; injection w1 with w1
        exact .inl ⟨rfl, w1⟩
      · rw [List.getElem?_set_ne ji] at w1 w2; exact .inr ⟨Ne.symm ji, w1, w2⟩
    rcases go a1 a2 with ⟨e1, e2⟩ | ⟨e1, e2, e3⟩
    · rcases go a3 a4 with ⟨f1, f2⟩ | ⟨f1, f2, f3⟩
      · rw [e1, f1]
      · exact (n k y (by rw [e2]; exact f2) f3).elim
    · rcases go a3 a4 with ⟨f1, f2⟩ | ⟨f1, f2, f3⟩
      · exact (n j x (by rw [f2]; exact e2) e3).elim
      · exact R.dj j k b x y e2 e3 f2 f3
theorem only_set {i : Nat} {v : Option V} : Only [i] σ (σ.set i v) := ⟨by simp, fun j h => List.getElem?_set_ne (fun e => h (by simp [e]))⟩
theorem lg_name {i : Nat} : ∀ v σ H Q', liftG T [i] (gN i) v σ H Q' → gName i v σ H Q' := by
  rintro v σ H Q' ⟨c, B, ρ, d, Q, R, n, h, q⟩
  exact q _ _ B H h.2 Ex.rfl' ExP.rfl' (R.setSh i n) only_set
theorem lgs_nil : ∀ v σ H Q', liftGs T [] gsNil v σ H Q' → gNil v σ H Q' := by
  rintro v σ H Q' ⟨c, B, ρ, ds, Q, R, n, h, q⟩
  cases n with
  | nil => exact ⟨rfl, q _ _ B H h Ex.rfl' ExP.rfl' R Only.refl⟩
  | cons _ _ => exact h.elim
theorem lgs_cons {js ks : List Nat} {g : RG} {gs : RGs} : ∀ v σ H Q', liftGs T (js ++ ks) (gsCons g gs) v σ H Q' → gCons (liftG T js g) (liftGs T ks gs) v σ H Q' := by
  rintro v σ H Q' ⟨c, B, ρ, ds, Q, R, n, h, q⟩
  cases n with
  | nil => exact h.elim
  | cons n1 n2 =>
    refine ⟨_, _, rfl, c, B, ρ, _, _, R, n1, h, fun ρ1 σ1 B1 H1 h1 e1 k1 R1 o1 => ?_⟩
    exact ⟨c, B1, ρ1, _, Q, R1, n2.mono e1, h1, fun ρ' σ' B' H' hq e k R' o => q ρ' σ' B' H' hq (e1.trans e) (k1.trans k) R' (o1.trans o)⟩
theorem lg_tup {js : List Nat} {gs : RGs} {n : Nat} : ∀ v σ H Q', liftG T js (gT n gs) v σ H Q' → gTup T.K n (liftGs T js gs) v σ H Q' := by
  rintro v σ H Q' ⟨c, B, ρ, d, Q, R, m, h, q⟩
  cases m <;> first | exact h.elim | skip
  case tup a xs ds hs r => exact ⟨a, xs, rfl, R.ex.sqT hs, by rw [r.length]; exact h.1, c, B, ρ, ds, Q, R, r, h.2, q⟩
theorem lg_lst {js : List Nat} {gs : RGs} {n : Nat} : ∀ v σ H Q', liftG T js (gL n gs) v σ H Q' → gLst T.K n (liftGs T js gs) v σ H Q' := by
  rintro v σ H Q' ⟨c, B, ρ, d, Q, R, m, h, q⟩
  cases m <;> first | exact h.elim | skip
  case lst a xs ds hs _ r => exact ⟨a, xs, rfl, .inl (.inl (R.ex _ _ hs)), by rw [r.length]; exact h.1, c, B, ρ, ds, Q, R, r, h.2, q⟩
end
end Dc
namespace L2
theorem PG.imp {X : Cx} {e : PySem.Expr} {t t' : TG} (h : PG X e t) (k : ∀ v σ H Q, t' v σ H Q → t v σ H Q) : PG X e t' := ⟨fun pins s σ H v u Q I r q => h.run pins s σ H v u Q I r (k v σ H Q q)⟩
theorem PGs.imp {X : Cx} {e : List PySem.Expr} {t t' : TGs} (h : PGs X e t) (k : ∀ v σ H Q, t' v σ H Q → t v σ H Q) : PGs X e t' := ⟨fun pins s σ H v u Q I r q => h.run pins s σ H v u Q I r (k v σ H Q q)⟩
theorem PI.imp {X : Cx} {g e : PySem.Expr} {t t' : TI} (h : PI X g e t) (k : ∀ σ H R, t' σ H R → t σ H R) : PI X g e t' := ⟨fun pins s σ H R I q => h.run pins s σ H R I (k σ H R q)⟩
theorem PTs.imp {X : Cx} {e : List PySem.Expr} {t t' : TT} (h : PTs X e t) (k : ∀ σ H Q, t' σ H Q → t σ H Q) : PTs X e t' := ⟨fun pins s σ H Q I q => h.run pins s σ H Q I (k σ H Q q)⟩
end L2
namespace Dc
open PySem L2

/-! ### statements -/
def sNext : RS := fun k ρ => k.nx ρ
def sSeq (a b : RS) : RS := fun k ρ => a { k with nx := b k } ρ
def sBreak : RS := fun k ρ => k.bk ρ
def sCont : RS := fun k ρ => k.ct ρ
def sRet (t : RE) : RS := fun k ρ => t k.ex ρ k.rt
def sRetN : RS := fun k ρ => k.rt .non .p ρ
def sDrop (t : RE) : RS := fun k ρ => t k.ex ρ fun _ _ ρ1 => k.nx ρ1
def sIf (c : RT) (a b : RS) : RS := fun k ρ => c k.ex ρ fun x ρ1 => if x = true then a k ρ1 else b k ρ1
/-- the slot i takes what an expression hands on -/
def put (i : Nat) (d : D) (g : Tag) (ρ : Env) : Env := match g with
  | .f => ρ.set i (.own d)
  | g => (leak d g ρ).set i (.sh d)
def sSet (i : Nat) (t : RE) : RS := fun k ρ => t k.ex ρ fun d g ρ1 => k.nx (put i d g ρ1)
/-- a target that takes a value that is told of -/
def sAsg (t : RE) (g : RG) : RS := fun k ρ => t k.ex ρ fun d t ρ1 => g d (leak d t ρ1) k.nx
def sNever : RS := fun _ _ => False
section
variable {T : Tx} {W : WX} {a b : RS} {t : RE} {ct : RT}
theorem ls_next : ∀ D σ H, liftS T W sNext D σ H → tNext D σ H := by
  rintro D σ H ⟨c, B, ρ, k, R, X, h, n, _⟩
  exact n ρ σ B H h Ex.rfl' R
theorem ls_seq : ∀ D σ H, liftS T W (sSeq a b) D σ H → tSeq (liftS T W a) (liftS T W b) D σ H := by
  rintro D σ H ⟨c, B, ρ, k, R, X, h, n, r, bk, ct⟩
  refine ⟨c, B, ρ, { k with nx := b k }, R, X, h, fun ρ1 σ1 B1 H1 h1 e1 R1 => ?_, r, bk, ct⟩
  exact ⟨c, B1, ρ1, k, R1, X.up e1, h1, fun ρ' σ' B' H' q e R' => n ρ' σ' B' H' q (e1.trans e) R', fun d g ρ' v σ' B' H' q e R' t => r d g ρ' v σ' B' H' q (e1.trans e) R' t,
    fun ρ' σ' B' H' q e R' => bk ρ' σ' B' H' q (e1.trans e) R', fun ρ' σ' B' H' q e R' => ct ρ' σ' B' H' q (e1.trans e) R'⟩
theorem ls_break : ∀ D σ H, liftS T W sBreak D σ H → tBreak D σ H := by
  rintro D σ H ⟨c, B, ρ, k, R, X, h, n, r, bk, ct⟩
  exact bk ρ σ B H h Ex.rfl' R
theorem ls_cont : ∀ D σ H, liftS T W sCont D σ H → tCont D σ H := by
  rintro D σ H ⟨c, B, ρ, k, R, X, h, n, r, bk, ct⟩
  exact ct ρ σ B H h Ex.rfl' R
theorem ls_ret : ∀ D σ H, liftS T W (sRet t) D σ H → tRet (liftE T W t) D σ H := by
  rintro D σ H ⟨c, B, ρ, k, R, X, h, n, r, bk, ct⟩
  exact ⟨c, B, ρ, _, _, R, X, h, fun d g ρ' v B' H' q e _ R' t => r d g ρ' v σ B' H' q e R' t⟩
theorem ls_retN : ∀ D σ H, liftS T W sRetN D σ H → tRetN D σ H := by
  rintro D σ H ⟨c, B, ρ, k, R, X, h, n, r, bk, ct⟩
  exact r _ _ _ _ σ B H h Ex.rfl' R (.p .non)
theorem ls_drop : ∀ D σ H, liftS T W (sDrop t) D σ H → tDrop (liftE T W t) D σ H := by
  rintro D σ H ⟨c, B, ρ, k, R, X, h, n, r, bk, ct⟩
  exact ⟨c, B, ρ, _, _, R, X, h, fun d g ρ' v B' H' q e _ R' t => n ρ' σ B' H' q e R'⟩
theorem ls_if : ∀ D σ H, liftS T W (sIf ct a b) D σ H → tIfS (liftT T W ct) (liftS T W a) (liftS T W b) D σ H := by
  rintro D σ H ⟨c, B, ρ, k, R, X, h, n, r, bk, ct⟩
  refine ⟨c, B, ρ, _, _, R, X, h, fun x ρ1 B1 H1 h1 e1 _ R1 => ?_⟩
  have go : ∀ {s : RS}, s k ρ1 → liftS T W s D σ H1 := fun {s} h => ⟨c, B1, ρ1, k, R1, X.up e1, h, fun ρ' σ' B' H' q e R' => n ρ' σ' B' H' q (e1.trans e) R', fun d g ρ' v σ' B' H' q e R' t => r d g ρ' v σ' B' H' q (e1.trans e) R' t,
    fun ρ' σ' B' H' q e R' => bk ρ' σ' B' H' q (e1.trans e) R', fun ρ' σ' B' H' q e R' => ct ρ' σ' B' H' q (e1.trans e) R'⟩
  cases x with
  | true => exact go h1
  | false => exact go h1
theorem ls_never : ∀ D σ H, liftS T W sNever D σ H → tNever D σ H := by
  rintro D σ H ⟨c, B, ρ, k, R, X, h, _⟩
  exact h
/-- a slot takes what has come -/
theorem put_ok {c : Dx T} {σ : St} {B H : Hp} {ρ : Env} {v : V} {d : D} {g : Tag} (R : Rel c σ B H ρ) (i : Nat) (h : Tg c σ B H ρ v d g) : ∃ B', Ex B B' ∧ Rel c (σ.set i (some v)) B' H (put i d g ρ) := by
  cases h with
  | p h => exact ⟨B, Ex.rfl', R.setSh i h⟩
  | f m h n => exact ⟨B, Ex.rfl', R.setOwn i m h n⟩
  | @b a d j h1 h2 =>
    obtain ⟨B', e, R', n⟩ := leak_ok R (.b h1 h2)
    exact ⟨B', e, R'.setSh i n⟩
theorem ls_set {i : Nat} : ∀ D σ H, liftS T W (sSet i t) D σ H → tAsg (liftE T W t) (gName i) D σ H := by
  rintro D σ H ⟨c, B, ρ, k, R, X, h, n, r, bk, ct⟩
  refine ⟨c, B, ρ, _, _, R, X, h, fun d g ρ1 v B1 H1 q e1 _ R1 t => ?_⟩
  obtain ⟨B2, e2, R2⟩ := put_ok R1 i t
  exact n _ _ B2 H1 q (e1.trans e2) R2
theorem ls_asg {js : List Nat} {g : RG} : ∀ D σ H, liftS T W (sAsg t g) D σ H → tAsg (liftE T W t) (liftG T js g) D σ H := by
  rintro D σ H ⟨c, B, ρ, k, R, X, h, n, r, bk, ct⟩
  refine ⟨c, B, ρ, _, _, R, X, h, fun d g ρ1 v B1 H1 q e1 _ R1 t => ?_⟩
  obtain ⟨B2, e2, R2, n2⟩ := leak_ok R1 t
  exact ⟨c, B2, _, d, _, R2, n2, q, fun ρ' σ' B' H' q e k R' o => n ρ' σ' B' H' q ((e1.trans e2).trans e) R'⟩
end

/-! ### what is walked -/
abbrev RI := XQ → Env → (List D → Env → Prop) → Prop
/-- the iterator J yields things worth ds -/
def Serves {T : Tx} (c : Dx T) (J : It) (B : Hp) (ds : List D) : Prop := ∀ (B' H' : Hp), Ex B B' → Ex B' H' → (∀ i, i = ds.length → J.stop i H') ∧
  ∀ i d, ds[i]? = some d → J.go i H' ∧ ∀ x H'', J.yld i H' x H'' → ∃ B'', Ex B' B'' ∧ Ex H' H'' ∧ (∀ σ ρ, Rel c σ B' H' ρ → Rel c σ B'' H'' ρ) ∧ Den c B'' x d
theorem Serves.up {T : Tx} {c : Dx T} {J : It} {B B1 : Hp} {ds : List D} (s : Serves c J B ds) (e : Ex B B1) : Serves c J B1 ds := fun B' H' e1 e2 => s B' H' (e.trans e1) e2
def liftI (T : Tx) (W : WX) (t : RI) : TI := fun σ H R' => ∃ c : Dx T, ∃ B ρ x Q, Rel c σ B H ρ ∧ XW c W B x ∧ t x ρ Q ∧
  ∀ ds ρ' J B' H', Q ds ρ' → Ex B B' → ExP c H H' → Rel c σ B' H' ρ' → (∀ F, Serves (c.ent c.H0 F) J B' ds) → R' J H'
/-- things in a row; ints from a to below b; signs; pairs of the number and the thing -/
def iSeq (t : RE) : RI := fun x ρ Q => t x ρ fun d g ρ1 => items d fun ds => Q ds (leak d g ρ1)
def inR (i : Int) : Prop := -(2 ^ 62) ≤ i ∧ i < 2 ^ 62
def ups (a : Int) (n : Nat) : List D := (List.range n).map fun i => D.int (a + (i : Nat))
def iRange1 (t : RA) : RI := fun x ρ Q => t x ρ fun ds ρ1 => match ds with
  | [.int n] => inR n ∧ Q (ups 0 n.toNat) ρ1
  | _ => False
def iRange2 (t : RA) : RI := fun x ρ Q => t x ρ fun ds ρ1 => match ds with
  | [.int a, .int b] => inR a ∧ inR b ∧ Q (ups a (b - a).toNat) ρ1
  | _ => False
def signs (x : Str) : List D := x.cps.toList.map fun c => D.str ⟨#[c]⟩
def iSigns (t : RE) : RI := fun x ρ Q => t x ρ fun d _ ρ1 => match d with
  | .str z => Q (signs z) ρ1
  | _ => False
def numbered (ds : List D) : List D := (ds.zipIdx).map fun p => D.tup [.int (p.2 : Nat), p.1]
def iEnumL (t : RE) : RI := fun x ρ Q => t x ρ fun d g ρ1 => match d with
  | .lst ds => Q (numbered ds) (leak d g ρ1)
  | _ => False
section
variable {T : Tx} {W : WX}
theorem serves_list {c : Dx T} {B : Hp} {a : Addr} {xs : List V} {ds : List D} (h : B a = some (.lst xs)) (r : Dens c B xs ds) : Serves c (Itl T.K a) B ds := by
  intro B' H' e1 e2
  have hs : SqL T.K H' a xs := .inl (.inl (e2 _ _ (e1 _ _ h)))
  refine ⟨fun i hi => ⟨xs, hs, by rw [r.length]; omega⟩, fun i d hd => ?_⟩
  obtain ⟨v, hv, n⟩ := r.get hd
  exact ⟨⟨xs, v, hs, hv⟩, fun x H'' ⟨eh, hx⟩ => ⟨B', Ex.rfl', by rw [eh]; exact Ex.rfl', fun σ ρ R => by rw [eh]; exact R, by
    have := hx xs hs
    rw [hv] at this; cases this
    exact n.mono e1⟩⟩
theorem serves_tup {c : Dx T} {B : Hp} {a : Addr} {xs : List V} {ds : List D} (h : SqT T.K B a xs) (r : Dens c B xs ds) : Serves c (Itt T.K a) B ds := by
  intro B' H' e1 e2
  have hs : SqT T.K H' a xs := e2.sqT (e1.sqT h)
  refine ⟨fun i hi => ⟨xs, hs, by rw [r.length]; omega⟩, fun i d hd => ?_⟩
  obtain ⟨v, hv, n⟩ := r.get hd
  exact ⟨⟨xs, v, hs, hv⟩, fun x H'' ⟨eh, hx⟩ => ⟨B', Ex.rfl', by rw [eh]; exact Ex.rfl', fun σ ρ R => by rw [eh]; exact R, by
    have := hx xs hs
    rw [hv] at this; cases this
    exact n.mono e1⟩⟩
theorem serves_range {c : Dx T} {B : Hp} {a : Int} {n : Nat} : Serves c (Itr a n) B (ups a n) := by
  intro B' H' e1 e2
  refine ⟨fun i hi => by simp [ups] at hi; show n ≤ i; omega, fun i d hd => ?_⟩
  simp only [ups, List.getElem?_map, List.getElem?_range] at hd
  by_cases hi : i < n
  · simp [hi] at hd
    subst hd
    exact ⟨hi, fun x H'' ⟨eh, hx⟩ => ⟨B', Ex.rfl', by rw [eh]; exact Ex.rfl', fun σ ρ R => by rw [eh]; exact R, by rw [hx]; exact .int _⟩⟩
  · simp [hi] at hd
/-- a list or a tuple: both walks serve; the text says which -/
def iL (t : RE) : RI := fun x ρ Q => t x ρ fun d g ρ1 => match d with
  | .lst ds => Q ds (leak d g ρ1)
  | _ => False
def iT (t : RE) : RI := fun x ρ Q => t x ρ fun d g ρ1 => match d with
  | .tup ds => Q ds (leak d g ρ1)
  | _ => False
theorem li_list {t : RE} : ∀ σ H R', liftI T W (iL t) σ H R' → iList T.K (liftE T W t) σ H R' := by
  rintro σ H R' ⟨c, B, ρ, x, Q, R, X, h, q⟩
  refine ⟨c, B, ρ, x, _, R, X, h, fun d g ρ1 v B1 H1 h1 e1 k1 R1 t1 => ?_⟩
  obtain ⟨B2, e2, R2, n2⟩ := leak_ok R1 t1
  cases n2 <;> first | exact h1.elim | skip
  case lst a xs ds hs np r => exact ⟨a, rfl, ⟨xs, .inl (.inl (R2.ex _ _ hs))⟩, q _ _ _ B2 H1 h1 (e1.trans e2) k1 R2 fun F => serves_list hs (Dens.ent _ _ r)⟩
theorem li_tup {t : RE} : ∀ σ H R', liftI T W (iT t) σ H R' → iTup T.K (liftE T W t) σ H R' := by
  rintro σ H R' ⟨c, B, ρ, x, Q, R, X, h, q⟩
  refine ⟨c, B, ρ, x, _, R, X, h, fun d g ρ1 v B1 H1 h1 e1 k1 R1 t1 => ?_⟩
  obtain ⟨B2, e2, R2, n2⟩ := leak_ok R1 t1
  cases n2 <;> first | exact h1.elim | skip
  case tup a xs ds hs r => exact ⟨a, rfl, ⟨xs, R2.ex.sqT hs⟩, q _ _ _ B2 H1 h1 (e1.trans e2) k1 R2 fun F => serves_tup hs (Dens.ent _ _ r)⟩
theorem li_range1 {t : RA} : ∀ σ H R', liftI T W (iRange1 t) σ H R' → iRng1 (liftB T W t) σ H R' := by
  rintro σ H R' ⟨c, B, ρ, x, Q, R, X, h, q⟩
  refine ⟨c, B, ρ, x, _, R, X, h, fun ds ρ1 vs B1 H1 h1 e1 k1 R1 t1 => ?_⟩
  match ds, h1, t1 with
  | [.int n], h1, .cons t2 .nil =>
    have e := t2.int_; subst e
    exact ⟨n, rfl, h1.1.1, h1.1.2, q _ _ _ B1 H1 h1.2 e1 k1 R1 fun F => serves_range⟩
theorem li_range2 {t : RA} : ∀ σ H R', liftI T W (iRange2 t) σ H R' → iRng2 (liftB T W t) σ H R' := by
  rintro σ H R' ⟨c, B, ρ, x, Q, R, X, h, q⟩
  refine ⟨c, B, ρ, x, _, R, X, h, fun ds ρ1 vs B1 H1 h1 e1 k1 R1 t1 => ?_⟩
  match ds, h1, t1 with
  | [.int a, .int b], h1, .cons t2 (.cons t3 .nil) =>
    have e := t2.int_; subst e
    have e := t3.int_; subst e
    exact ⟨a, b, rfl, ⟨h1.1.1, h1.1.2, h1.2.1.1, h1.2.1.2⟩, q _ _ _ B1 H1 h1.2.2 e1 k1 R1 fun F => serves_range⟩
end

/-! ### for -/
def dLoop (g : RG) (tb : RS) (k : Kd) : List D → Env → Prop
  | [], ρ => k.nx ρ
  | d :: ds, ρ => g d ρ fun ρ1 => tb { k with nx := dLoop g tb k ds, ct := dLoop g tb k ds, bk := k.nx } ρ1
def sFor (it : RI) (g : RG) (tb : RS) : RS := fun k ρ => it k.ex ρ fun ds ρ1 => dLoop g tb k ds ρ1
theorem drop_get {α : Type} {l : List α} {i : Nat} (h : i < l.length) : l.drop i = l[i] :: l.drop (i + 1) := by
  rw [List.drop_eq_getElem_cons h]
theorem ls_for {T : Tx} {W : WX} {it : RI} {g : RG} {js : List Nat} {tb : RS} : ∀ D σ H, liftS T W (sFor it g tb) D σ H → tFor (liftI T W it) (liftG T js g) (liftS T W tb) D σ H := by
  rintro D σ H ⟨c, B, ρ, k, R, X, h, n, r, bk, ct⟩
  refine ⟨c, B, ρ, _, _, R, X, h, fun ds ρ1 J B1 H1 h1 e1 k1 R1 S => ?_⟩
  have S := S c.fb
  refine ⟨fun i m σ' H' => m = ds.length - i ∧ i ≤ ds.length ∧ ∃ B' ρ', Ex B1 B' ∧ Rel c σ' B' H' ρ' ∧ dLoop g tb k (ds.drop i) ρ', ⟨ds.length, by simp, Nat.zero_le _, B1, ρ1, Ex.rfl', R1, h1⟩, ?_⟩
  rintro i m σ' H' ⟨rfl, hi, B', ρ', e', R', q⟩
  obtain ⟨stop, step⟩ := S B' H' e' R'.ex
  by_cases hlt : i < ds.length
  · rw [drop_get hlt] at q
    obtain ⟨go, yl⟩ := step i ds[i] (by simp [hlt])
    refine .inr ⟨go, fun σ2 H2 => i + 1 ≤ ds.length ∧ ∃ B2 ρ2, Ex B1 B2 ∧ Rel c σ2 B2 H2 ρ2 ∧ dLoop g tb k (ds.drop (i + 1)) ρ2, fun σ2 H2 ⟨a1, a2⟩ => ⟨ds.length - (i + 1), by omega, rfl, a1, a2⟩, fun x H2 y => ?_⟩
    obtain ⟨B2, e2, _, keep, nd⟩ := yl x H2 y
    refine ⟨c, B2, ρ', ds[i], _, keep _ _ R', nd, q, fun ρ3 σ3 B3 H3 q3 e3 _ R3 _ => ?_⟩
    have E3 : Ex B1 B3 := e'.trans (e2.trans e3)
    exact ⟨c, B3, ρ3, { k with nx := dLoop g tb k (ds.drop (i + 1)), ct := dLoop g tb k (ds.drop (i + 1)), bk := k.nx }, R3, X.up (e1.trans E3), q3, fun ρ4 σ4 B4 H4 q4 e4 R4 => ⟨hlt, B4, ρ4, E3.trans e4, R4, q4⟩,
      fun d g ρ4 v σ4 B4 H4 q4 e4 R4 t4 => r d g ρ4 v σ4 B4 H4 q4 ((e1.trans E3).trans e4) R4 t4,
      fun ρ4 σ4 B4 H4 q4 e4 R4 => n ρ4 σ4 B4 H4 q4 ((e1.trans E3).trans e4) R4, fun ρ4 σ4 B4 H4 q4 e4 R4 => ⟨hlt, B4, ρ4, E3.trans e4, R4, q4⟩⟩
  · have ei : i = ds.length := by omega
    rw [ei, List.drop_length] at q
    exact .inl ⟨stop i ei, n ρ' σ' B' H' q (e1.trans e') R'⟩
/-! ### while: by a word and a measure -/
def sWhile (tc : RT) (tb : RS) : RS := fun k ρ => ∃ I : Nat → Env → Prop, (∃ m, I m ρ) ∧ ∀ m ρ, I m ρ → tc k.ex ρ fun b ρ1 =>
  if b = true then tb { k with nx := fun ρ' => ∃ m', m' < m ∧ I m' ρ', ct := fun ρ' => ∃ m', m' < m ∧ I m' ρ', bk := k.nx } ρ1 else k.nx ρ1
theorem ls_while {T : Tx} {W : WX} {tc : RT} {tb : RS} : ∀ D σ H, liftS T W (sWhile tc tb) D σ H → tWhile (liftT T W tc) (liftS T W tb) D σ H := by
  rintro D σ H ⟨c, B, ρ, k, R, X, ⟨I, ⟨m0, i0⟩, step⟩, n, r, bk, ct⟩
  refine ⟨fun m σ' H' => ∃ B' ρ', Ex B B' ∧ Rel c σ' B' H' ρ' ∧ I m ρ', ⟨m0, B, ρ, Ex.rfl', R, i0⟩, ?_⟩
  rintro m σ' H' ⟨B', ρ', e', R', im⟩
  refine ⟨c, B', ρ', _, _, R', X.up e', step m ρ' im, fun b ρ1 B1 H1 q e1 _ R1 => ?_⟩
  cases b with
  | false => exact n ρ1 σ' B1 H1 q (e'.trans e1) R1
  | true =>
    have E1 := e'.trans e1
    refine ⟨fun σ2 H2 => ∃ m', m' < m ∧ ∃ B2 ρ2, Ex B B2 ∧ Rel c σ2 B2 H2 ρ2 ∧ I m' ρ2, fun σ2 H2 h => h, ?_⟩
    exact ⟨c, B1, ρ1, { k with nx := fun ρ' => ∃ m', m' < m ∧ I m' ρ', ct := fun ρ' => ∃ m', m' < m ∧ I m' ρ', bk := k.nx }, R1, X.up E1, q, fun ρ4 σ4 B4 H4 ⟨m', l, i'⟩ e4 R4 => ⟨m', l, B4, ρ4, E1.trans e4, R4, i'⟩,
      fun d g ρ4 v σ4 B4 H4 q4 e4 R4 t4 => r d g ρ4 v σ4 B4 H4 q4 (E1.trans e4) R4 t4,
      fun ρ4 σ4 B4 H4 q4 e4 R4 => n ρ4 σ4 B4 H4 q4 (E1.trans e4) R4, fun ρ4 σ4 B4 H4 ⟨m', l, i'⟩ e4 R4 => ⟨m', l, B4, ρ4, E1.trans e4, R4, i'⟩⟩
end Dc
set_option maxHeartbeats 1000000
/-! Data calculus 4: comprehensions. -/
namespace Dc
open PySem L2

def frz1 (i : Nat) (ρ : Env) : Env := match ρ[i]? with
  | some (.own d) => ρ.set i (.sh d)
  | _ => ρ
def frz : List Nat → Env → Env
  | [], ρ => ρ
  | i :: r, ρ => frz r (frz1 i ρ)
def wipeE (ρ : Env) : List Nat → Env
  | [] => ρ
  | v :: vs => (wipeE ρ vs).set v .no
theorem wipeE_length (ρ : Env) : ∀ vs, (wipeE ρ vs).length = ρ.length
  | [] => rfl
  | v :: vs => by simp [wipeE, wipeE_length ρ vs]
section
variable {T : Tx} {c : Dx T} {σ : St} {B H : Hp} {ρ : Env}
theorem frz1_ok (R : Rel c σ B H ρ) (i : Nat) : ∃ B', Ex B B' ∧ Rel c σ B' H (frz1 i ρ) := by
  unfold frz1
  split
  · rename_i d e
    have hi : i < σ.length := by rw [R.len]; exact (List.getElem?_eq_some_iff.mp e).1
    obtain ⟨o, ho⟩ : ∃ o, σ[i]? = some o := ⟨σ[i], by simp [hi]⟩
    have s := R.sl i o _ ho e
    cases s with
    | @own a _ m s =>
      obtain ⟨B', e', R', _⟩ := leak_ok R (.b ho e)
      exact ⟨B', e', R'⟩
  · exact ⟨B, Ex.rfl', R⟩
theorem frz_ok : ∀ (l : List Nat) {B : Hp} {ρ : Env}, Rel c σ B H ρ → ∃ B', Ex B B' ∧ Rel c σ B' H (frz l ρ)
  | [], B, ρ, R => ⟨B, Ex.rfl', R⟩
  | i :: r, B, ρ, R => by
    obtain ⟨B1, e1, R1⟩ := frz1_ok R i
    obtain ⟨B2, e2, R2⟩ := frz_ok r R1
    exact ⟨B2, e1.trans e2, R2⟩
theorem frz1_own {i j : Nat} {d : D} (h : (frz1 i ρ)[j]? = some (.own d)) : ρ[j]? = some (.own d) ∧ j ≠ i := by
  unfold frz1 at h
  split at h
  · rename_i e he
    by_cases q : i = j
    · subst q
      rw [List.getElem?_set_self (List.getElem?_eq_some_iff.mp he).1] at h; cases h
    · rw [List.getElem?_set_ne q] at h; exact ⟨h, Ne.symm q⟩
  · rename_i ne
    refine ⟨h, fun q => ?_⟩
    subst q
    exact ne d h
theorem frz_own {j : Nat} {d : D} : ∀ (l : List Nat) {ρ : Env}, (frz l ρ)[j]? = some (.own d) → ρ[j]? = some (.own d) ∧ j ∉ l
  | [], ρ, h => ⟨h, by simp⟩
  | i :: r, ρ, h => by
    obtain ⟨h1, n1⟩ := frz_own r h
    obtain ⟨h2, n2⟩ := frz1_own h1
    exact ⟨h2, by simp [n1, n2]⟩
/-- one slot forgotten -/
theorem Rel.setNo (R : Rel c σ B H ρ) (i : Nat) (o : Option V) : Rel c (σ.set i o) B H (ρ.set i .no) where
  ex := R.ex
  pail := R.pail
  ent := R.ent
  fb := R.fb
  len := by simp [R.len]
  sl := fun j o s h1 h2 => by
    by_cases ji : i = j
    · subst ji
      have hi : i < ρ.length := by have := (List.getElem?_eq_some_iff.mp h2).1; simpa using this
      rw [List.getElem?_set_self hi] at h2
      cases h2
      exact .no
    · rw [List.getElem?_set_ne ji] at h1 h2
      exact R.sl j o s h1 h2
  dj := fun j k a x y a1 a2 a3 a4 => by
    have go : ∀ {j : Nat} {x : D}, (ρ.set i .no)[j]? = some (.own x) → j ≠ i ∧ ρ[j]? = some (.own x) := fun {j x} w => by
      by_cases ji : i = j
      · subst ji
        by_cases hi : i < ρ.length
        · rw [List.getElem?_set_self hi] at w; cases w
        · rw [List.getElem?_eq_none (by simpa using hi)] at w; cases w
      · rw [List.getElem?_set_ne ji] at w; exact ⟨Ne.symm ji, w⟩
    obtain ⟨n1, b1⟩ := go a2
    obtain ⟨n2, b2⟩ := go a4
    rw [List.getElem?_set_ne (Ne.symm n1)] at a1
    rw [List.getElem?_set_ne (Ne.symm n2)] at a3
    exact R.dj j k a x y a1 b1 a3 b2
theorem Rel.wiped (R : Rel c σ B H ρ) : ∀ vs, Rel c (wipe σ vs) B H (wipeE ρ vs)
  | [] => R
  | v :: vs => (R.wiped vs).setNo v none
theorem wipe_at {σ : St} {i : Nat} : ∀ {vs : List Nat}, i ∉ vs → (wipe σ vs)[i]? = σ[i]?
  | [], _ => rfl
  | v :: vs, h => by
    have h2 : v ≠ i := fun e => h (by simp [e])
    unfold wipe
    rw [List.getElem?_set_ne h2]
    exact wipe_at fun q => h (List.mem_cons_of_mem _ q)
theorem wipeE_at {ρ : Env} {i : Nat} : ∀ {vs : List Nat}, i ∉ vs → (wipeE ρ vs)[i]? = ρ[i]?
  | [], _ => rfl
  | v :: vs, h => by
    have h2 : v ≠ i := fun e => h (by simp [e])
    unfold wipeE
    rw [List.getElem?_set_ne h2]
    exact wipeE_at fun q => h (List.mem_cons_of_mem _ q)
theorem wipe_in {σ : St} {i : Nat} : ∀ {vs : List Nat}, i ∈ vs → (wipe σ vs)[i]? = if i < σ.length then some none else none
  | v :: vs, h => by
    unfold wipe
    by_cases e : v = i
    · subst e
      by_cases hl : v < σ.length
      · rw [List.getElem?_set_self (by rw [wipe_length]; exact hl), if_pos hl]
      · rw [List.getElem?_eq_none (by rw [List.length_set, wipe_length]; omega), if_neg hl]
    · rw [List.getElem?_set_ne e]
      exact wipe_in ((List.mem_cons.mp h).resolve_left fun q => e q.symm)
/-- what differs at forgotten slots alone is the same when they are forgotten -/
theorem wipe_only {js vs : List Nat} {σ1 : St} (o : Only js (wipe σ vs) σ1) (h : ∀ j ∈ js, j ∈ vs) : wipe σ1 vs = wipe σ vs := by
  apply List.ext_getElem?
  intro i
  by_cases hi : i ∈ vs
  · rw [wipe_in hi, wipe_in hi, o.1, wipe_length]
  · rw [wipe_at hi, o.2 i fun q => hi (h i q)]
/-- the address p is left alone from now on -/
def ward (c : Dx T) (p : Addr) : Dx T := c.ent c.H0 fun a => c.fb a ∨ a = p
theorem Rel.ward (R : Rel c σ B H ρ) {p : Addr} {o : HO} (hp : H p = none) : Rel (ward c p) σ B (upd H p o) ρ := by
  have R1 := R.newH (o := o) hp
  have m := R.mine hp
  have up : ∀ {v d}, Den c B v d → Den (Dc.ward c p) B v d := fun h => Den.ent _ _ h
  refine ⟨R1.ex, R1.pail, R1.ent, fun a h => ?_, R1.len, fun i u s h1 h2 => ?_, R1.dj⟩
  · rcases h with h | h
    · exact R1.fb a h
    · subst h; exact ⟨⟨_, upd_same⟩, m.b, m.p⟩
  · have z := R1.sl i u s h1 h2
    cases z with
    | no => exact .no
    | sh z => exact .sh (Den.ent _ _ z)
    | @own a d mm z =>
      refine .own ⟨mm.b, mm.p, mm.h, fun q => ?_⟩ ?_
      · rcases q with q | q
        · exact mm.f q
        · exact Mine.ne (R.ownB h1 h2).2 hp q
      · cases z with
        | lst z r => exact .lst z (Dens.ent _ _ r)
        | dic z r => exact .dic z (DenK.ent _ _ r)
end
/-- an address that is left alone is written by its owner -/
theorem Rel.writeFb {T : Tx} {c : Dx T} {σ : St} {B H : Hp} {ρ : Env} (R : Rel c σ B H ρ) {p : Addr} {o : HO} (hp : c.fb p) (h0 : c.H0 p = none) : Rel c σ B (upd H p o) ρ := by
  obtain ⟨_, bp, np⟩ := R.fb p hp
  refine ⟨fun b u hb => ?_, fun b hb => ?_, fun a u hn hb => ?_, fun a ha => ?_, R.len, fun i u s h1 h2 => ?_, R.dj⟩
  · rw [upd_ne (ne_of_none hb bp)]; exact R.ex b u hb
  · obtain ⟨x, y, w, hx, r⟩ := (R.pail b hb).2
    exact ⟨(R.pail b hb).1, x, y, w, by rw [upd_ne (fun e => np (by rw [← e]; exact hb))]; exact hx, r⟩
  · rw [upd_ne (ne_of_none hb h0)]; exact R.ent a u hn hb
  · obtain ⟨⟨u, hu⟩, h2, h3⟩ := R.fb a ha
    refine ⟨?_, h2, h3⟩
    by_cases e : a = p
    · exact ⟨o, by rw [e, upd_same]⟩
    · exact ⟨u, by rw [upd_ne e]; exact hu⟩
  · have z := R.sl i u s h1 h2
    cases z with
    | no => exact .no
    | sh z => exact .sh z
    | own m z => exact .own m (z.mono Ex.rfl' fun u hu => by rw [upd_ne (fun e => m.f (by rw [e]; exact hp))]; exact hu)
mutual
theorem Den.unent {T : Tx} {c : Dx T} {B : Hp} {F : Addr → Prop} : ∀ {v : V} {d : D}, Den (c.ent c.H0 F) B v d → Den c B v d
  | _, _, .non => .non
  | _, _, .bl b => .bl b
  | _, _, .int i => .int i
  | _, _, .str x => .str x
  | _, _, .tup h r => .tup h (Dens.unent r)
  | _, _, .lst h n r => .lst h n (Dens.unent r)
  | _, _, .dic h n r => .dic h n (DenK.unent r)
  | _, _, .obj h r => .obj h (Dens.unent r)
  | _, _, .ptr h => .ptr h
  | _, _, .adr => .adr
  | _, _, .scr h => .scr h
  | _, _, .tpz h h1 h2 r => .tpz h h1 h2 (Dens.unent r)
theorem Dens.unent {T : Tx} {c : Dx T} {B : Hp} {F : Addr → Prop} : ∀ {vs : List V} {ds : List D}, Dens (c.ent c.H0 F) B vs ds → Dens c B vs ds
  | _, _, .nil => .nil
  | _, _, .cons h r => .cons (Den.unent h) (Dens.unent r)
theorem DenK.unent {T : Tx} {c : Dx T} {B : Hp} {F : Addr → Prop} : ∀ {vs : List (Key × V)} {ds : List (Key × D)}, DenK (c.ent c.H0 F) B vs ds → DenK c B vs ds
  | _, _, .nil => .nil
  | _, _, .cons h r => .cons (Den.unent h) (DenK.unent r)
end

/-- the turns of a comprehension: what has been made so far, then the end -/
def lcL (own : List Nat) (ρw : Env) (g : RG) (tt : RT) (te : RE) : List D → List D → (List D → Prop) → Prop
  | [], acc, k => k acc
  | d :: ds, acc, k => g d ρw fun ρ1 => tt noX ρ1 fun b ρ2 =>
    if b = true then te noX ρ2 fun e ge ρ3 => wipeE (leak e ge ρ3) own = ρw ∧ lcL own ρw g tt te ds (acc ++ [e]) k else wipeE ρ2 own = ρw ∧ lcL own ρw g tt te ds acc k
def dLc (it : RI) (fz own : List Nat) (g : RG) (tt : RT) (te : RE) : RE := fun x ρ Q => it x ρ fun ds ρ1 => ds.length ≤ sizeLine ∧
  lcL own (wipeE (frz (own ++ fz) ρ1) own) g tt te ds [] fun acc => Q (.lst acc) .f (frz (own ++ fz) ρ1)
def dYes : RT := fun _ ρ Q => Q true ρ
abbrev W0 : WX := fun _ _ _ _ => False
theorem lt_yes {T : Tx} {W : WX} : ∀ σ H Q', liftT T W dYes σ H Q' → tYes σ H Q' := by
  rintro σ H Q' ⟨c, B, ρ, x, Q, R, X, h, q⟩
  exact q _ _ B H h Ex.rfl' ExP.rfl' R
theorem le_lc {T : Tx} {W : WX} {it : RI} {fz own js : List Nat} {g : RG} {tt : RT} {te : RE} (hj : ∀ j ∈ js, j ∈ own) :
    ∀ σ H Q', liftE T W (dLc it fz own g tt te) σ H Q' → tLc (liftI T W it) (liftG T js g) (liftT T W0 tt) (liftE T W0 te) own σ H Q' := by
  rintro σ H Q' ⟨c, B, ρ, x, Q, R, X, h, q⟩
  refine ⟨c, B, ρ, x, _, R, X, h, fun ds ρ1 J B1 H1 h1 e1 k1 R1 S => fun p hp => ?_⟩
  obtain ⟨hz, h1⟩ := h1
  obtain ⟨B2, e2, R2⟩ := frz_ok (own ++ fz) R1
  have S2 := (S fun a => c.fb a ∨ a = p).up e2
  have m2 := R2.mine hp
  have Rw : Rel (ward c p) (wipe σ own) B2 (upd H1 p (.lst [])) (wipeE (frz (own ++ fz) ρ1) own) := (R2.wiped own).ward hp
  refine ⟨fun i m H' => m = ds.length - i ∧ i ≤ ds.length ∧ ExP c H1 H' ∧ ∃ B' acc vs, Ex B2 B' ∧ Rel (ward c p) (wipe σ own) B' H' (wipeE (frz (own ++ fz) ρ1) own) ∧ H' p = some (.lst vs) ∧ Dens (ward c p) B' vs acc ∧ acc.length ≤ i ∧
      lcL own (wipeE (frz (own ++ fz) ρ1) own) g tt te (ds.drop i) acc fun acc => Q (.lst acc) .f (frz (own ++ fz) ρ1),
    ⟨ds.length, by simp, Nat.zero_le _, Ex.p (Ex.new hp), B2, [], [], Ex.rfl', Rw, upd_same, .nil, Nat.le_refl _, h1⟩, ?_⟩
  rintro i m H' ⟨rfl, hi, kp, B', acc, vs, e', R', hd, na, la, hq⟩
  obtain ⟨stop, step⟩ := S2 B' H' e' R'.ex
  by_cases hlt : i < ds.length
  · rw [drop_get hlt] at hq
    obtain ⟨go, yl⟩ := step i ds[i] (by simp [hlt])
    refine .inr ⟨go, fun H2 => ExP c H1 H2 ∧ ∃ B3 acc vs, Ex B2 B3 ∧ Rel (ward c p) (wipe σ own) B3 H2 (wipeE (frz (own ++ fz) ρ1) own) ∧ H2 p = some (.lst vs) ∧ Dens (ward c p) B3 vs acc ∧ acc.length ≤ i + 1 ∧
      lcL own (wipeE (frz (own ++ fz) ρ1) own) g tt te (ds.drop (i + 1)) acc fun acc => Q (.lst acc) .f (frz (own ++ fz) ρ1),
      fun H2 ⟨a1, a2⟩ => ⟨ds.length - (i + 1), by omega, rfl, hlt, a1, a2⟩, fun x2 H2 y => ?_⟩
    obtain ⟨B3, e3, e3', keep, nd⟩ := yl x2 H2 y
    have R3 := keep _ _ R'
    refine ⟨ward c p, B3, _, ds[i], _, R3, nd, hq, fun ρ4 σ4 B4 H4 q4 e4 k4 R4 o4 => ?_⟩
    have hw : wipe σ4 own = wipe σ own := wipe_only o4 hj
    refine ⟨hw, ward c p, B4, ρ4, noX, _, R4, XW.no, q4, fun b ρ5 B5 H5 q5 e5 k5 R5 => ?_⟩
    have np : c.pa ≠ some p := m2.p
    cases b with
    | false =>
      obtain ⟨w5, l5⟩ := q5
      refine ⟨kp.trans (Ex.p e3' |>.trans (k4.trans k5)), B5, acc, vs, e'.trans (e3.trans (e4.trans e5)), ?_, k5 _ _ np (k4 _ _ np (e3' _ _ hd)), na.mono (e3.trans (e4.trans e5)), Nat.le_succ_of_le la, l5⟩
      have z := R5.wiped own
      rw [w5, hw] at z; exact z
    | true =>
      refine ⟨ward c p, B5, ρ5, noX, _, R5, XW.no, q5, fun d6 g6 ρ6 v6 B6 H6 q6 e6 k6 R6 t6 => ?_⟩
      obtain ⟨w6, l6⟩ := q6
      obtain ⟨B7, e7, R7, n7⟩ := leak_ok R6 t6
      have h6 : H6 p = some (.lst vs) := k6 _ _ np (k5 _ _ np (k4 _ _ np (e3' _ _ hd)))
      have E7 : Ex B' B7 := e3.trans (e4.trans (e5.trans (e6.trans e7)))
      have bp : B7 p = none := (R7.fb p (.inr rfl)).2.1
      refine ⟨vs, h6, by rw [na.length]; omega, ?_, B7, acc ++ [d6], vs ++ [v6], e'.trans E7, ?_, upd_same, (na.mono E7).append (.cons n7 .nil), by simp; omega, l6⟩
      · intro a o ha hb
        have ne : a ≠ p := ne_of_none hb hp
        rw [upd_ne ne]
        exact k6 _ _ ha (k5 _ _ ha (k4 _ _ ha (e3' _ _ (kp _ _ ha hb))))
      · have z := R7.wiped own
        rw [w6, hw] at z
        exact z.writeFb (.inr rfl) m2.h
  · have ei : i = ds.length := by omega
    rw [ei, List.drop_length] at hq
    refine .inl ⟨stop i ei, ?_⟩
    have Rf : Rel c σ B' H' (frz (own ++ fz) ρ1) := by
      refine R2.grow e' R'.ex kp (fun a ha => R'.pail a ha) (fun a d j h1 h2 => ?_) (fun a ha => (R'.fb a (.inl ha)).2.1)
      have nj : j ∉ own := fun z => (frz_own _ h2).2 (List.mem_append_left _ z)
      exact (R'.ownB (by rw [wipe_at nj]; exact h1) (by rw [wipeE_at nj]; exact h2)).1.b
    refine q _ _ _ (.ref p) B' H' hq (e1.trans (e2.trans e')) (k1.trans kp) Rf (.f ⟨(R'.fb p (.inr rfl)).2.1, m2.p, m2.h, m2.f⟩ (.lst hd (Dens.unent na)) fun j e h1 h2 => ?_)
    have nj : j ∉ own := fun z => (frz_own _ h2).2 (List.mem_append_left _ z)
    exact (R'.ownB (by rw [wipe_at nj]; exact h1) (by rw [wipeE_at nj]; exact h2)).1.f (.inr rfl)
end Dc
set_option maxHeartbeats 1000000
/-! Data calculus 5: what a def promises of plain data, and calls. -/
namespace Dc
open PySem L2

mutual
theorem Den.to {T : Tx} {c c' : Dx T} {B : Hp} (e : c'.pa = c.pa) : ∀ {v : V} {d : D}, Den c B v d → Den c' B v d
  | _, _, .non => .non
  | _, _, .bl b => .bl b
  | _, _, .int i => .int i
  | _, _, .str x => .str x
  | _, _, .tup h r => .tup h (Dens.to e r)
  | _, _, .lst h n r => .lst h (by rw [e]; exact n) (Dens.to e r)
  | _, _, .dic h n r => .dic h (by rw [e]; exact n) (DenK.to e r)
  | _, _, .obj h r => .obj h (Dens.to e r)
  | _, _, .ptr h => .ptr (e.trans h)
  | _, _, .adr => .adr
  | _, _, .scr h => .scr h
  | _, _, .tpz h h1 h2 r => .tpz h h1 h2 (Dens.to e r)
theorem Dens.to {T : Tx} {c c' : Dx T} {B : Hp} (e : c'.pa = c.pa) : ∀ {vs : List V} {ds : List D}, Dens c B vs ds → Dens c' B vs ds
  | _, _, .nil => .nil
  | _, _, .cons h r => .cons (Den.to e h) (Dens.to e r)
theorem DenK.to {T : Tx} {c c' : Dx T} {B : Hp} (e : c'.pa = c.pa) : ∀ {vs : List (Key × V)} {ds : List (Key × D)}, DenK c B vs ds → DenK c' B vs ds
  | _, _, .nil => .nil
  | _, _, .cons h r => .cons (Den.to e h) (DenK.to e r)
end
theorem OwnAt.to {T : Tx} {c c' : Dx T} {B H : Hp} {a : Addr} {d : D} (e : c'.pa = c.pa) (h : OwnAt c B H a d) : OwnAt c' B H a d := by
  cases h with
  | lst h r => exact .lst h (r.to e)
  | dic h r => exact .dic h (r.to e)
theorem XDen.to {T : Tx} {c c' : Dx T} {B : Hp} {cls : Value} {dd : Option Addr} {d : D} (e : c'.pa = c.pa) (h : XDen c B cls dd d) : XDen c' B cls dd d := by
  cases h with
  | bare => exact .bare
  | one h n => exact .one h (n.to e)

/-- what holds of the heaps between defs -/
structure Hold {T : Tx} (c : Dx T) (B H : Hp) : Prop where
  ex : Ex B H
  pail : Pail c B H
  fb : ∀ a, c.fb a → (∃ o, H a = some o) ∧ B a = none ∧ c.pa ≠ some a
theorem Rel.hold {T : Tx} {c : Dx T} {σ : St} {B H : Hp} {ρ : Env} (R : Rel c σ B H ρ) : Hold c B H := ⟨R.ex, R.pail, R.fb⟩
/-- a result: told of, or new and nobody else's -/
inductive RetOk {T : Tx} (c : Dx T) (B H : Hp) : V → D → Bool → Prop
  | p {v : V} {d : D} : Den c B v d → RetOk c B H v d false
  | f {a : Addr} {d : D} : Mine c B a → OwnAt c B H a d → RetOk c B H (.ref a) d true
abbrev Sps := List D → (D → Bool → Prop) → (D → Prop) → Prop
/-- the promise of a def of n parameters, by plain data -/
def spD (T : Tx) (n : Nat) (sp : Sps) : Sp := fun vs H Q E => ∃ (c : Dx T) (B : Hp) (ds : List D) (Qd : D → Bool → Prop) (xd : D → Prop), c.H0 = H ∧ Hold c B H ∧ Dens c B vs ds ∧ ds.length = n ∧ sp ds Qd xd ∧
  (∀ d o v B' H', Qd d o → Ex B B' → ExP c H H' → Hold c B' H' → RetOk c B' H' v d o → Q v H') ∧
  (∀ e cls dd B' H', xd e → Ex B B' → ExP c H H' → Hold c B' H' → XDen c B' cls dd e → E cls dd H')
theorem spD.len {T : Tx} {n : Nat} {sp : Sps} {vs : List V} {H : Hp} {Q : VK} {E : XK} (h : spD T n sp vs H Q E) : vs.length = n := by
  obtain ⟨c, B, ds, Qd, xd, _, _, r, hl, _⟩ := h
  rw [r.length, hl]
/-- a stronger promise -/
theorem spD.imp {T : Tx} {n : Nat} {sp sp' : Sps} (k : ∀ ds Qd xd, ds.length = n → sp' ds Qd xd → sp ds Qd xd) {vs : List V} {H : Hp} {Q : VK} {E : XK} (h : spD T n sp' vs H Q E) : spD T n sp vs H Q E := by
  obtain ⟨c, B, ds, Qd, xd, a, b, r, hl, h, q⟩ := h
  exact ⟨c, B, ds, Qd, xd, a, b, r, hl, k ds Qd xd hl h, q⟩

/-- a def keeps its promise, wherever no repr is under way -/
structure FnG (P : Program) (w : World) (K : PySem.W.Frag) (mg : Str → Option Value) (base : Heap) (k : Nat) (f : Addr) (fd : FuncData) (ps : List Str) (sp : Sp) : Prop where
  len : ∀ vs H Q E, sp vs H Q E → vs.length = ps.length
  run : ∀ (A : Around) (outer : List PySem.Env) (s : Shared) (H : Hp) (args : Args) (us : List Value) (vs : List V) (Q : VK) (E : XK), Room k A → A.guards = some [] → Env0 P w K mg base A outer s H → BindsTo s fd args (ps.zip us) → Vals vs us → sp vs H Q E →
    codeAny (model P w) A (.call (.ref f) args) (CR (L2.CX P w) outer P w H s Q E) s
section
variable {P : Program} {w : World} {K : PySem.W.Frag} {mg : Str → Option Value} {base : Heap} {j k : Nat} {f : Addr} {fd : FuncData} {ps : List Str} {sp sp' : Sp}
theorem FnG.mono (F : FnG P w K mg base j f fd ps sp) (h : j ≤ k) : FnG P w K mg base k f fd ps sp := ⟨F.len, fun A outer s H args us vs Q E hr => F.run A outer s H args us vs Q E (hr.mono h)⟩
theorem FnG.imp (F : FnG P w K mg base k f fd ps sp) (h : ∀ vs H Q E, sp' vs H Q E → sp vs H Q E) : FnG P w K mg base k f fd ps sp' :=
  ⟨fun vs H Q E q => F.len vs H Q E (h _ _ _ _ q), fun A outer s H args us vs Q E hr hg e b r q => F.run A outer s H args us vs Q E hr hg e b r (h _ _ _ _ q)⟩
/-- a def of the text, by its body -/
theorem fnG_of {x qual : Str} {st : Stmt} {N : List Str} (F : Fun K x qual st f fd) (S : FnScope N ps (defScope st)) (len : ∀ vs H Q E, sp vs H Q E → vs.length = ps.length)
    (hbody : ∀ (cdv : Value) (A : Around) (outer : List PySem.Env) (s : Shared) (H : Hp) (vs : List V) (Q : VK) (E : XK), Room k (A.deeper (PyProof.Rows.envOfC qual (defScope st) s.heap.objs.size f cdv)) → (A.deeper (PyProof.Rows.envOfC qual (defScope st) s.heap.objs.size f cdv)).guards = some [] → sp vs H Q E →
      ∃ t, PSs (cxOf (L2.CX P w) P w K mg base N qual (defScope st) f cdv A outer s H E) (defBody st) t ∧ t { nx := fun _ H' => Q .non H', rt := Q } (L2.start N vs) H) : FnG P w K mg base (k + 1) f fd ps sp := by
  obtain ⟨oc, od, kV, doc, pm, an, cdv, ct, osl, rfl, lk, hcd⟩ := F.ex
  refine ⟨len, fun A outer s H args us vs Q E hr hg e0 hb r h => ?_⟩
  exact LamX.run_ofS lk hcd S hr e0 hb r (len _ _ _ _ h) fun hr' => hbody cdv A outer s H vs Q E hr' hg h
end

/-- the start of a frame -/
def startE (N : List Str) (ds : List D) : Env := ds.map Sl.sh ++ List.replicate (N.length - ds.length) Sl.no
def frOf : Tag → Bool
  | .p => false
  | _ => true
def kdOf (Qd : D → Bool → Prop) (xd : D → Prop) : Kd := { nx := fun _ => Qd .non false, rt := fun d g _ => Qd d (frOf g), ex := fun e _ => xd e }
theorem rel_start {T : Tx} {c : Dx T} {B H : Hp} {vs : List V} {ds : List D} {N : List Str} (h : Hold c B H) (h0 : c.H0 = H) (r : Dens c B vs ds) : Rel c (L2.start N vs) B H (startE N ds) := by
  have hl : vs.length = ds.length := r.length
  have noown : ∀ {i : Nat} {d : D}, (startE N ds)[i]? = some (.own d) → False := fun {i d} q => by
    unfold startE at q
    by_cases hi : i < ds.length
    · rw [List.getElem?_append_left (by simpa using hi), List.getElem?_map] at q
      cases e : ds[i]? with
      | none => rw [e] at q; cases q
      | some z => rw [e] at q; cases q
    · rw [List.getElem?_append_right (by simpa using hi), List.getElem?_replicate] at q
      split at q <;> cases q
  refine ⟨h.ex, h.pail, by rw [h0]; exact ExP.rfl', h.fb, by simp [L2.start, startE, hl], fun i o s h1 h2 => ?_, fun i j a d e _ h2 => (noown h2).elim⟩
  unfold startE at h2
  unfold L2.start at h1
  by_cases hi : i < ds.length
  · rw [List.getElem?_append_left (by simpa using hi), List.getElem?_map] at h2
    rw [List.getElem?_append_left (by simpa [hl] using hi), List.getElem?_map] at h1
    cases e : ds[i]? with
    | none => rw [e] at h2; cases h2
    | some d =>
      rw [e] at h2; cases h2
      obtain ⟨v, hv, n⟩ := r.get e
      rw [hv] at h1; cases h1
      exact .sh n
  · rw [List.getElem?_append_right (by simpa using hi), List.getElem?_replicate] at h2
    split at h2 <;> cases h2
    exact .no
/-- THE RULE: a def by the reading of its body -/
theorem fnG_ok {P : Program} {w : World} {T : Tx} {mg : Str → Option Value} {base : Heap} {k : Nat} {f : Addr} {fd : FuncData} {ps N : List Str} {x qual : Str} {st : Stmt} {sp : Sps} (t : RS) (F : Fun T.K x qual st f fd) (S : FnScope N ps (defScope st))
    (hder : ∀ (cdv : Value) (A : Around) (outer : List PySem.Env) (s : Shared) (H : Hp) (E : XK), Room k (A.deeper (PyProof.Rows.envOfC qual (defScope st) s.heap.objs.size f cdv)) → (A.deeper (PyProof.Rows.envOfC qual (defScope st) s.heap.objs.size f cdv)).guards = some [] →
      PSs (cxOf (L2.CX P w) P w T.K mg base N qual (defScope st) f cdv A outer s H E) (defBody st) (liftS T (fun cls d _ H => E cls d H) t))
    (hpure : ∀ ds Qd xd, ds.length = ps.length → sp ds Qd xd → t (kdOf Qd xd) (startE N ds)) : FnG P w T.K mg base (k + 1) f fd ps (spD T ps.length sp) := by
  refine fnG_of F S (fun vs H Q E h => h.len) fun cdv A outer s H vs Q E hr hg h => ⟨_, hder cdv A outer s H E hr hg, ?_⟩
  obtain ⟨c, B, ds, Qd, xd, h0, ho, r, hl, hs, q, qx⟩ := h
  have R := rel_start (N := N) ho h0 r
  refine ⟨c, B, _, kdOf Qd xd, R, fun d ρ' cls dd σ' B' H' hx e R' hd => qx d cls dd B' H' hx e (by rw [← h0]; exact R'.ent) R'.hold hd, hpure ds Qd xd hl hs, fun ρ' σ' B' H' hq e R' => ?_, fun d g ρ' v σ' B' H' hq e R' t => ?_, fun _ _ _ _ z => z.elim, fun _ _ _ _ z => z.elim⟩
  · exact q _ _ _ B' H' hq e (by rw [← h0]; exact R'.ent) R'.hold (.p .non)
  · refine q _ _ _ B' H' hq e (by rw [← h0]; exact R'.ent) R'.hold ?_
    cases t with
    | p n => exact .p n
    | f m o _ => exact .f m o
    | b h1 h2 => exact .f (R'.ownB h1 h2).1 (R'.ownB h1 h2).2

/-! ### calls -/
section
variable {X : Cx} {k : Nat} {f : Addr} {fd : FuncData} {ps : List Str} {sp : Sp} {W : WX}
theorem run_fnG {pins : List (Addr × Obj)} {σ : St} {H : Hp} {s : Shared} {Q : VK} {args : Args} {us : List Value} {vs : List V} (F : FnG X.prog X.w X.K X.mg X.base k f fd ps sp) (hr : Room k X.A) (hg : X.A.guards = some [])
    (tk : Takes X W) (I : Inv X pins σ H s) (hb : BindsTo s fd args (ps.zip us)) (r : Vals vs us) (h : sp vs H Q (WE W σ)) : codeAny (model X.prog X.w) X.A (.call (.ref f) args) (fun r s' => match r with | .ok (.ret v) => EP X pins σ Q v s' | .ok _ => False | .error e => X.xe e s') s := by
  refine codeAny_mono (F.run X.A X.stack s H args us vs Q (WE W σ) hr hg I.env0 hb r h) fun r s' hq => ?_
  rcases r with e | (u | _ | _ | _)
  · exact passAt tk σ pins H s e s' I hq
  all_goals first | exact I.after hq | exact False.elim hq
/-- f(e, ..), a def of the text's top -/
theorem pe_callG {x : Str} {p pos : Pos} {e : Expr} {es : List Expr} {t : TA} (F : FnG X.prog X.w X.K X.mg X.base k f fd ps sp) (hr : Room k X.A) (hgu : X.A.guards = some []) (hm : X.mg x = some (.ref f)) (hk : PySem.W.keepIn X.K (.ref f) = true) (hb : Binds X.K fd ps []) (tk : Takes X W)
    (ha : PA X (e :: es) t) (hg : Gl X x := by rfl) (hdb : (x == ("__debug__" : Str)) = false := by decide) (he : starEach (e :: es) X.env = (false, eval e X.env) :: starEach es X.env := by rfl) (hpl : (backTo pos (starEach es X.env)).any (·.1) = false := by rfl) :
    PE X (.Call (.Name x p) (e :: es) [] pos) (tCallS sp (WE W) t) := by
  refine ⟨fun pins s σ H Q I h => wpAny_Call_Name_kw (ld_glob I hg hm ?_ hdb)⟩
  refine PySem.W.callWith_K (h₀ := X.base) I.ok.mod.kin hk (thn (ha.run pos pins s σ H _ I h) fun us s1 ⟨vs, H1, I1, r, q⟩ => ⟨I1.kIn, ?_⟩) he hpl
  have hl : (us ++ []).length = ps.length := by rw [List.append_nil, ← r.length]; exact F.len _ _ _ _ q
  have b := hb s1 us I1.kIn hl
  rw [List.append_nil] at b
  exact wpAny_call (run_fnG F hr hgu tk I1 b r q)
end
/-- what a call asks -/
def dOwn (n : Nat) (sp : Sps) (ta : RA) : RE := fun x ρ Q => ta x ρ fun ds ρ1 => ds.length = n ∧ sp ds (fun d o => Q d (if o = true then .f else .p) ρ1) (fun e => x e ρ1)
/-- the callee's context: our own things are left alone -/
abbrev callee {T : Tx} (c : Dx T) (σ : St) (H : Hp) (ρ : Env) : Dx T := c.ent H fun (a : Addr) => c.fb a ∨ ∃ (i : Nat) (d : D), σ[i]? = some (some (V.ref a)) ∧ ρ[i]? = some (Sl.own d)
section
variable {T : Tx} {c : Dx T} {σ : St} {B H : Hp} {ρ : Env}
theorem callee_hold (R : Rel c σ B H ρ) : Hold (callee c σ H ρ) B H := ⟨R.ex, R.pail, fun a h => by
  rcases h with h | ⟨i, d, h1, h2⟩
  · exact R.fb a h
  · obtain ⟨m, o⟩ := R.ownB h1 h2
    exact ⟨o.there, m.b, m.p⟩⟩
theorem callee_back (R : Rel c σ B H ρ) {B' H' : Hp} (e : Ex B B') (k : ExP (callee c σ H ρ) H H') (h : Hold (callee c σ H ρ) B' H') : Rel c σ B' H' ρ :=
  R.grow e h.ex k h.pail (fun a d i h1 h2 => (h.fb a (.inr ⟨i, d, h1, h2⟩)).2.1) fun a ha => (h.fb a (.inl ha)).2.1
theorem callee_ret (R : Rel c σ B H ρ) {B' H' : Hp} {v : V} {d : D} {o : Bool} (e : Ex B B') (k : ExP (callee c σ H ρ) H H') (h : Hold (callee c σ H ρ) B' H') (r : RetOk (callee c σ H ρ) B' H' v d o) :
    Tg c σ B' H' ρ v d (if o = true then .f else .p) := by
  cases r with
  | p n => exact .p (Den.to (c := callee c σ H ρ) (c' := c) rfl n)
  | @f a d m o =>
    refine .f ⟨m.b, m.p, ?_, fun q => m.f (.inl q)⟩ (OwnAt.to (c := callee c σ H ρ) (c' := c) rfl o) fun i e h1 h2 => m.f (.inr ⟨i, e, h1, h2⟩)
    cases q : c.H0 a with
    | none => rfl
    | some z =>
      have := R.ent a z m.p q
      have h0 : H a = none := m.h
      rw [h0] at this; cases this
end
theorem le_own {T : Tx} {W : WX} {n : Nat} {sp : Sps} {ta : RA} : ∀ σ H Q', liftE T W (dOwn n sp ta) σ H Q' → tCallS (spD T n sp) (WE W) (liftA T W ta) σ H Q' := by
  rintro σ H Q' ⟨c, B, ρ, x, Q, R, X, h, q⟩
  refine ⟨c, B, ρ, x, _, R, X, h, fun ds ρ1 vs B1 H1 h1 e1 k1 R1 t1 => ?_⟩
  refine ⟨callee c σ H1 ρ1, B1, ds, _, _, rfl, callee_hold R1, Dens.to (c := c) (c' := callee c σ H1 ρ1) rfl t1, h1.1, h1.2, fun d o v B' H' hq e k ho r => ?_, fun e cls dd B' H' hx eb k ho hd => ?_⟩
  · exact q _ _ _ v B' H' hq (e1.trans e) (k1.trans k) (callee_back R1 e k ho) (callee_ret R1 e k ho r)
  · exact X e ρ1 cls dd σ B' H' hx (e1.trans eb) (callee_back R1 eb k ho) (XDen.to (c := callee c σ H1 ρ1) (c' := c) rfl hd)
end Dc
set_option maxHeartbeats 1000000
/-! Data calculus 6: written arguments, methods, classmethods, instances with slots. -/
namespace Dc
open PySem L2 PyProof.Rows PySem.W

/-! ### arguments of a call, by place and by name -/
def Keeps (X : Cx) (P : Heap → Prop) (f : Value) : Prop := ∀ h, P h → ∃ k, (k = Keeper.frame ∨ k = Keeper.machine ∨ k = Keeper.boundFrame) ∧ Looks (model X.prog X.w) h (keeperOf f) k
structure PCs (X : Cx) (es : List Expr) (kws : List Keyword) (pos : Pos) (n : Nat) (ks : List Str) (t : TA) : Prop where
  run : ∀ (P : Heap → Prop) (f : Value) (first : List Value) (pins : List (Addr × Obj)) (s : Shared) (σ : L2.St) (H : Hp) (Q : Value → Shared → Prop) (R : List V → Hp → Prop), Keeps X P f → Inv X pins σ H s → (∀ s' H', Inv X pins σ H' s' → P s'.heap) → t σ H R →
    (∀ us ws vs H2 s2, Inv X pins σ H2 s2 → Vals vs (us ++ ws) → us.length = n → ws.length = ks.length → R vs H2 → wpAny (model X.prog X.w) X.A (call f (first ++ us) (ks.zip ws)) Q X.xe s2) →
    wpAny (model X.prog X.w) X.A (callWith pos f first (backTo pos (starEach es X.env)) (backToKw pos (keywordEach kws X.env))) Q X.xe s
def tPos (n : Nat) (t : TA) : TA := fun σ H R => t σ H fun vs H1 => vs.length = n ∧ R vs H1
def tKw (n m : Nat) (t tk : TA) : TA := fun σ H R => t σ H fun vs H1 => tk σ H1 fun zs H2 => vs.length = n ∧ zs.length = m ∧ R (vs ++ zs) H2
theorem PCs.imp {X : Cx} {es : List Expr} {kws : List Keyword} {pos : Pos} {n : Nat} {ks : List Str} {t t' : TA} (h : PCs X es kws pos n ks t) (k : ∀ σ H Q, t' σ H Q → t σ H Q) : PCs X es kws pos n ks t' :=
  ⟨fun P f first pins s σ H Q R a b c q d => h.run P f first pins s σ H Q R a b c (k σ H R q) d⟩
section
variable {X : Cx} {e : Expr} {es : List Expr} {kws : List Keyword} {pos : Pos} {n : Nat} {ks : List Str} {t tk : TA}
theorem pcs_nil : PCs X [] [] pos 0 [] tNil := by
  refine ⟨fun P f first pins s σ H Q R hk I hP h c => ?_⟩
  exact callWith_of rfl hk (evalArgs_nil3 ⟨hP _ _ I, c [] [] [] H s I .nil rfl rfl h⟩)
theorem pcs_pos (ha : PA X (e :: es) t) (he : starEach (e :: es) X.env = (false, eval e X.env) :: starEach es X.env := by rfl) (hpl : (backTo pos (starEach es X.env)).any (·.1) = false := by rfl) : PCs X (e :: es) [] pos n [] (tPos n t) := by
  refine ⟨fun P f first pins s σ H Q R hk I hP h c => ?_⟩
  show wpAny _ _ (callWith pos f first (backTo pos (starEach (e :: es) X.env)) []) _ _ _
  have z := ha.run pos pins s σ H _ I h
  rw [he] at z ⊢
  refine callWith_of (P := P) (by show ((false || (backTo pos (starEach es X.env)).any (·.1)) || false) = false; rw [hpl]; rfl) hk (Calls.evalArgs_plain (thn z fun us s2 ⟨vs, H2, I2, r, l, q⟩ => ⟨hP _ _ I2, ?_⟩))
  exact c us [] vs H2 s2 I2 (by rw [List.append_nil]; exact r) (by rw [← r.length]; exact l) rfl q
theorem pcs_kw (ha : PA X (e :: es) t) (hkw : PK X kws tk) (hall : (backToKw pos (keywordEach kws X.env)).all (·.1.isSome) = true := by rfl) (hks : (backToKw pos (keywordEach kws X.env)).filterMap (·.1) = ks := by rfl)
    (he : starEach (e :: es) X.env = (false, eval e X.env) :: starEach es X.env := by rfl)
    (hpl : ((backTo pos (starEach (e :: es) X.env)).any (·.1) || (backToKw pos (keywordEach kws X.env)).any (·.1.isNone)) = false := by rfl) : PCs X (e :: es) kws pos n ks (tKw n ks.length t tk) := by
  refine ⟨fun P f first pins s σ H Q R hk I hP h c => ?_⟩
  refine callWith_of (P := P) hpl hk (evalArgs_kw2 hall (thn (ha.run pos pins s σ H _ I h) fun us s1 ⟨vs, H1, I1, r, q⟩ => ?_) he)
  refine thn (hkw.run pos pins s1 σ H1 _ I1 q) fun ws s2 ⟨zs, H2, I2, rz, l1, l2, q2⟩ => ⟨hP _ _ I2, ?_⟩
  rw [hks]
  exact c us ws (vs ++ zs) H2 s2 I2 (r.append rz) (by rw [← r.length]; exact l1) (by rw [← rz.length]; exact l2) q2
theorem pcs_kw0 (hkw : PK X kws tk) (hall : (backToKw pos (keywordEach kws X.env)).all (·.1.isSome) = true := by rfl) (hks : (backToKw pos (keywordEach kws X.env)).filterMap (·.1) = ks := by rfl)
    (hpl : ((backTo pos (starEach [] X.env)).any (·.1) || (backToKw pos (keywordEach kws X.env)).any (·.1.isNone)) = false := by rfl) : PCs X [] kws pos 0 ks (tPos ks.length tk) := by
  refine ⟨fun P f first pins s σ H Q R hk I hP h c => ?_⟩
  refine callWith_of (P := P) hpl hk (evalArgs_kw2_nil hall (thn (hkw.run pos pins s σ H _ I h) fun ws s2 ⟨zs, H2, I2, rz, l2, q2⟩ => ⟨hP _ _ I2, ?_⟩))
  rw [hks]
  exact c [] ws zs H2 s2 I2 rz rfl (by rw [← rz.length]; exact l2) q2
end
/-- how such arguments are bound: in the order of the parameters -/
def KB (K : Frag) (fd : FuncData) (ps : List Str) (n : Nat) (ks : List Str) : Prop := ∀ (s : Shared) (us ws : List Value), K.In s.heap → us.length = n → ws.length = ks.length → BindsTo s fd ⟨us, ks.zip ws⟩ (ps.zip (us ++ ws))
theorem kb_of {K : Frag} {x qual : Str} {st : Stmt} {f : Addr} {fd : FuncData} {ps : List Str} {n : Nat} {ks : List Str} (F : Fun K x qual st f fd)
    (h : ∀ (kV doc pm : Value) (an : Option Addr) (cdv ct : Value) (us ws : List Value), us.length = n → ws.length = ks.length → bindArgs (fnOf x qual (defArgs st) (defBody st) (defScope st) .none kV doc pm an cdv ct) ⟨us, ks.zip ws⟩ = pure (ps.zip (us ++ ws))) : KB K fd ps n ks := by
  obtain ⟨oc, od, kV, doc, pm, an, cdv, ct, osl, rfl, lk, hcd⟩ := F.ex
  exact fun s us ws _ h1 h2 => BindsTo.of_looks fun M => by rw [h kV doc pm an cdv ct us ws h1 h2]; exact .now

section
variable {X : Cx} {k n : Nat} {f C p g : Addr} {fd : FuncData} {ps ks : List Str} {sp : Sp} {W : WX} {x m : Str} {np pos apos : Pos} {o : Expr} {es : List Expr} {kws : List Keyword} {to : TE} {t : TA} {pl : Sem Bool}
/-- f(..), a def of the text's top -/
theorem pe_fG (F : FnG X.prog X.w X.K X.mg X.base k f fd ps sp) (hr : Room k X.A) (hgu : X.A.guards = some []) (hm : X.mg x = some (.ref f)) (hk : keepIn X.K (.ref f) = true) (hb : KB X.K fd ps n ks) (tk : Takes X W)
    (ha : PCs X es kws pos n ks t) (hg : Gl X x := by rfl) (hdb : (x == ("__debug__" : Str)) = false := by decide) : PE X (.Call (.Name x np) es kws pos) (tCallS sp (WE W) t) := by
  refine ⟨fun pins s σ H Q I h => wpAny_Call_Name_kw (ld_glob I hg hm ?_ hdb)⟩
  refine ha.run X.K.In _ [] pins s σ H _ _ (keeps_K hk) I (fun _ _ I => I.kIn) h fun us ws vs H2 s2 I2 r l1 l2 q => ?_
  exact wpAny_call (run_fnG (args := ⟨us, ks.zip ws⟩) F hr hgu tk I2 (hb s2 us ws I2.kIn l1 l2) r q)
/-- o.m(..), o an instance with slots -/
def tMethG (C : Addr) (sp : Sp) (W : WX) (ta : TE) (t : TA) : TE := fun σ H Q => ta σ H fun x H1 => ∃ a dx vs, x = .ref a ∧ SlX.Slt H1 a C dx vs ∧ t σ H1 fun ws H2 => sp (x :: ws) H2 Q (WE W σ)
theorem pe_mG (c : SlX.SCls X.K C) (hm : Meth X.K C m f) (F : FnG X.prog X.w X.K X.mg X.base k f fd ps sp) (hr : Room k X.A) (hgu : X.A.guards = some []) (hb : KB X.K fd ps (n + 1) ks) (tk : Takes X W)
    (he : PE X o to) (ha : PCs X es kws pos n ks t)
    (ht : eval (.Call (.Attribute o m apos) es kws pos) X.env = (do
      let ov ← eval o X.env
      standAt apos.atName
      let (f, first) ← holding [ov] (getMethod ov m pl)
      callWith pos f first (backTo pos (starEach es X.env)) (backToKw pos (keywordEach kws X.env))) := by rfl) : PE X (.Call (.Attribute o m apos) es kws pos) (tMethG C sp W to t) := by
  refine ⟨fun pins s σ H Q I h => methodCall_KW (pl := pl) (thn (he.run pins s σ H _ I h) fun u s1 ⟨x, H1, I1, rx, a, dx, vs, ex, hsl, q⟩ => ?_) ht⟩
  subst ex
  obtain rfl : u = Value.ref a := rx
  refine SlX.getmethsl_ok I1 hsl c hm ?_
  refine ha.run X.K.In _ [.ref a] pins s1 σ H1 _ _ (keeps_K hm.kp) I1 (fun _ _ I => I.kIn) q fun us ws vs H2 s2 I2 r l1 l2 q => ?_
  exact wpAny_call (run_fnG (us := .ref a :: (us ++ ws)) (vs := .ref a :: vs) (args := ⟨.ref a :: us, ks.zip ws⟩) F hr hgu tk I2 (hb s2 (.ref a :: us) ws I2.kIn (by simp [l1]) l2) (.cons rfl r) q)
/-- C.m(..), m a classmethod -/
theorem pe_cmG {mc : Value} (r : ClX.CRead X.K C mc) (c : ClX.CMet X.K C mc m p g) (F : FnG X.prog X.w X.K X.mg X.base k g fd ps sp) (hr : Room k X.A) (hgu : X.A.guards = some []) (hb : KB X.K fd ps (n + 1) ks) (tk : Takes X W)
    (he : PE X o to) (ha : PCs X es kws pos n ks t)
    (ht : eval (.Call (.Attribute o m apos) es kws pos) X.env = (do
      let ov ← eval o X.env
      standAt apos.atName
      let (f, first) ← holding [ov] (getMethod ov m pl)
      callWith pos f first (backTo pos (starEach es X.env)) (backToKw pos (keywordEach kws X.env))) := by rfl) : PE X (.Call (.Attribute o m apos) es kws pos) (fun σ H Q => to σ H fun x H1 => x = .ref C ∧ t σ H1 fun vs H2 => sp (.ref C :: vs) H2 Q (WE W σ)) := by
  refine ⟨fun pins s σ H Q I h => methodCall_KW (pl := pl) (thn (he.run pins s σ H _ I h) fun u s1 ⟨x, H1, I1, rx, ex, q⟩ => ?_) ht⟩
  subst ex
  obtain rfl : u = Value.ref C := rx
  refine ClX.getmethcm_ok I1 r c fun s2 I2 => ?_
  refine ha.run (MethP X.K s1.heap.objs.size g (.ref C)) _ [] _ s2 σ H1 _ _ (keeps_M c.fi) I2 (fun _ _ I => ⟨ClX.pin_at I, I.kIn⟩) q fun us ws vs H2 s3 I3 r l1 l2 q => ?_
  have z : wpAny (model X.prog X.w) X.A (call (.ref s1.heap.objs.size) us (ks.zip ws)) (EP X ((s1.heap.objs.size, methodObj (.ref g) (.ref C)) :: pins) σ Q) X.xe s3 :=
    wpAny_call (method_call (ClX.pin_at I3) (run_fnG (us := .ref C :: (us ++ ws)) (vs := .ref C :: vs) (args := ⟨.ref C :: us, ks.zip ws⟩) F hr hgu tk I3 (hb s3 (.ref C :: us) ws I3.kIn (by simp [l1]) l2) (.cons rfl r) q))
  exact thn z fun _ _ y => ClX.unpinE y
/-- e.f, a property -/
def tPropG (C : Addr) (sp : Sp) (ta : TE) : TE := fun σ H Q => ta σ H fun x H1 => ∃ a dx vs, x = .ref a ∧ SlX.Slt H1 a C dx vs ∧ sp [.ref a] H1 Q fun _ _ _ => False
theorem pe_propG {f : Str} (c : SlX.SCls X.K C) (at_ : findIn X.K (.ref C) f = some (some (.ref p))) (get : specialIn X.K (.ref p) "__get__" = some (some (.builtin "property.__get__")))
    (ta : takesIn X.K (.ref p) = some true) (rc : ∃ rest, recIn X.K p "property" = some (.ref g :: rest)) (F : FnG X.prog X.w X.K X.mg X.base k g fd ps sp) (hr : Room (k + 1) X.A) (hgu : X.A.guards = some []) (hb : KB X.K fd ps 1 [])
    (he : PE X o to) (hbs : attributeBase o f X.env (eval o X.env) = eval o X.env := by rfl) : PE X (.Attribute o f pos) (tPropG C sp to) := by
  refine ⟨fun pins s σ H Q I h => attr_of hbs (thn (he.run pins s σ H _ I h) fun w s1 ⟨x, H1, I1, rx, a, dx, vs, ex, hs, q⟩ => ?_)⟩
  subst ex
  obtain rfl : w = Value.ref a := rx
  obtain ⟨sl, od, _, J, _⟩ := SlX.slt_inst I1 hs
  obtain ⟨rest, hrec⟩ := rc
  have I2 : Inv X pins σ H1 { s1 with toks := s1.toks + 1 } := I1.tok (s1.toks + 1)
  refine get_bind I1.kIn J (plainGet_of (c.get f)).1 (findObj_data c.ic at_ get ta) (plainGet_of (c.get f)).2 (wpAny_call (prop_get (s := { s1 with toks := s1.toks + 1 }) I1.kIn hrec ?_))
  refine codeAny_mono (F.run X.A.in1 X.stack { s1 with toks := s1.toks + 1 } H1 ⟨[.ref a], []⟩ [.ref a] [.ref a] Q _ hr.in1 hgu I2.env0.in1 (hb _ [.ref a] [] I1.kIn rfl rfl) (.cons rfl .nil) q) fun r s' hq => ?_
  cases r with
  | error e =>
    obtain ⟨_, _, _, _, _, _, _, _, _, _, _, _, z⟩ := hq
    exact z.elim
  | ok fl =>
    cases fl with
    | ret u =>
      obtain ⟨v, H', I3, rv, q⟩ := I2.after hq
      exact wpAny_of_eq (handedOut_of (handed_of rv)) ⟨v, H', I3, rv, q⟩
    | next => exact False.elim hq
    | brk => exact False.elim hq
    | cont => exact False.elim hq
end
end Dc
set_option maxHeartbeats 1000000
/-! Data calculus 7: instances with slots by plain data. -/
namespace Dc
open PySem L2 PyProof.Rows PySem.W

def dPos (n : Nat) (ra : RA) : RA := fun x ρ Q => ra x ρ fun ds ρ1 => ds.length = n ∧ Q ds ρ1
def dKw (n m : Nat) (ra rk : RA) : RA := fun x ρ Q => ra x ρ fun ds ρ1 => rk x ρ1 fun es ρ2 => ds.length = n ∧ es.length = m ∧ Q (ds ++ es) ρ2
def tagO (o : Bool) : Tag := if o = true then .f else .p
/-- the data of an instance -/
def asObj (cn : Nat) : D → (List D → Prop) → Prop
  | .obj k ds, q => k = cn ∧ q ds
  | _, _ => False
def dMeth (cn n : Nat) (sp : Sps) (to : RE) (ta : RA) : RE := fun x ρ Q => to x ρ fun d _ ρ1 => asObj cn d fun os => ta x ρ1 fun es ρ2 => es.length + 1 = n ∧ sp (.obj cn os :: es) (fun d o => Q d (tagO o) ρ2) (fun e => x e ρ2)
def dCm (C : Addr) (n : Nat) (sp : Sps) (ta : RA) : RE := fun x ρ Q => ta x ρ fun es ρ2 => es.length + 1 = n ∧ sp (.adr C :: es) (fun d o => Q d (tagO o) ρ2) (fun e => x e ρ2)
def dProp (cn : Nat) (sp : Sps) (to : RE) : RE := fun x ρ Q => to x ρ fun d _ ρ1 => asObj cn d fun os => sp [.obj cn os] (fun d o => Q d (tagO o) ρ1) (fun _ => False)
def nth (i : Nat) (ds : List D) (q : D → Prop) : Prop := match ds[i]? with
  | some e => q e
  | none => False
def dSl (cn i : Nat) (to : RE) : RE := fun x ρ Q => to x ρ fun d _ ρ1 => asObj cn d fun os => nth i os fun e => Q e .p ρ1
theorem Tm.denO {T : Tx} {c : Dx T} {B H : Hp} {v : V} {n : Nat} {ds : List D} (h : Tm c B H v (.obj n ds)) : Den c B v (.obj n ds) := by
  cases h with
  | den h => exact h
  | own _ h => cases h
section
variable {T : Tx} {W : WX} {ta : RA} {to : RE} {n cn : Nat} {sp : Sps}
theorem la_pos : ∀ σ H Q', liftA T W (dPos n ta) σ H Q' → tPos n (liftA T W ta) σ H Q' := by
  rintro σ H Q' ⟨c, B, ρ, x, Q, R, X, h, q⟩
  exact ⟨c, B, ρ, x, _, R, X, h, fun ds ρ1 vs B1 H1 h1 e1 k1 R1 t1 => ⟨by rw [t1.length]; exact h1.1, q _ _ _ B1 H1 h1.2 e1 k1 R1 t1⟩⟩
theorem la_kw {m : Nat} {rk : RA} : ∀ σ H Q', liftA T W (dKw n m ta rk) σ H Q' → tKw n m (liftA T W ta) (liftA T W rk) σ H Q' := by
  rintro σ H Q' ⟨c, B, ρ, x, Q, R, X, h, q⟩
  refine ⟨c, B, ρ, x, _, R, X, h, fun ds ρ1 vs B1 H1 h1 e1 k1 R1 t1 => ⟨c, B1, ρ1, x, _, R1, X.up e1, h1, fun es ρ2 zs B2 H2 h2 e2 k2 R2 t2 => ?_⟩⟩
  exact ⟨by rw [t1.length]; exact h2.1, by rw [t2.length]; exact h2.2.1, q _ _ _ B2 H2 h2.2.2 (e1.trans e2) (k1.trans k2) R2 ((t1.mono e2).append t2)⟩
/-- the promise, wanted at a state -/
theorem spD_at {c : Dx T} {σ : L2.St} {B H : Hp} {ρ : Env} {x : XQ} {vs : List V} {ds : List D} {Q : EQ} {Q' : VK} (R : Rel c σ B H ρ) (X : XW c W B x) (t : Dens c B vs ds) (hl : ds.length = n)
    (h : sp ds (fun d o => Q d (tagO o) ρ) (fun e => x e ρ)) (q : ∀ d g ρ' v B' H', Q d g ρ' → Ex B B' → ExP c H H' → Rel c σ B' H' ρ' → Tg c σ B' H' ρ' v d g → Q' v H') : spD T n sp vs H Q' (WE W σ) := by
  refine ⟨callee c σ H ρ, B, ds, _, _, rfl, callee_hold R, Dens.to (c := c) (c' := callee c σ H ρ) rfl t, hl, h, fun d o v B' H' hq e k ho r => ?_, fun e cls dd B' H' hx eb k ho hd => ?_⟩
  · exact q _ _ _ v B' H' hq e k (callee_back R e k ho) (callee_ret R e k ho r)
  · exact X e ρ cls dd σ B' H' hx eb (callee_back R eb k ho) (XDen.to (c := callee c σ H ρ) (c' := c) rfl hd)
theorem le_meth : ∀ σ H Q', liftE T W (dMeth cn n sp to ta) σ H Q' → tMethG (T.cl cn) (spD T n sp) W (liftE T W to) (liftA T W ta) σ H Q' := by
  rintro σ H Q' ⟨c, B, ρ, x, Q, R, X, h, q⟩
  refine ⟨c, B, ρ, x, _, R, X, h, fun d g ρ1 v B1 H1 h1 e1 k1 R1 t1 => ?_⟩
  cases d <;> first | exact h1.elim | skip
  case obj k os =>
    obtain ⟨rfl, h1⟩ := h1
    have dn := (t1.tm R1).denO
    obtain ⟨a, dx, xs, rfl, hs, r⟩ := (t1.tm R1).obj_ R1.ex
    refine ⟨a, dx, _, rfl, hs, c, B1, ρ1, x, _, R1, X.up e1, h1, fun es ρ2 ws B2 H2 h2 e2 k2 R2 t2 => ?_⟩
    exact spD_at R2 (X.up (e1.trans e2)) (.cons (dn.mono e2) t2) h2.1 h2.2 fun d g ρ' v B' H' a1 a2 a3 a4 a5 => q _ _ _ _ B' H' a1 ((e1.trans e2).trans a2) ((k1.trans k2).trans a3) a4 a5
theorem le_cm {C : Addr} : ∀ σ H Q', liftE T W (dCm C n sp ta) σ H Q' → tC (.ref C) σ H fun x H1 => x = .ref C ∧ liftA T W ta σ H1 fun vs H2 => spD T n sp (.ref C :: vs) H2 Q' (WE W σ) := by
  rintro σ H Q' ⟨c, B, ρ, x, Q, R, X, h, q⟩
  refine ⟨rfl, c, B, ρ, x, _, R, X, h, fun es ρ2 ws B2 H2 h2 e2 k2 R2 t2 => ?_⟩
  exact spD_at R2 (X.up e2) (.cons .adr t2) h2.1 h2.2 fun d g ρ' v B' H' a1 a2 a3 a4 a5 => q _ _ _ _ B' H' a1 (e2.trans a2) (k2.trans a3) a4 a5
theorem le_prop (h1 : n = 1) : ∀ σ H Q', liftE T W (dProp cn sp to) σ H Q' → tPropG (T.cl cn) (spD T n sp) (liftE T W to) σ H Q' := by
  rintro σ H Q' ⟨c, B, ρ, x, Q, R, X, h, q⟩
  refine ⟨c, B, ρ, x, _, R, X, h, fun d g ρ1 v B1 H1 h2 e1 k1 R1 t1 => ?_⟩
  cases d <;> first | exact h2.elim | skip
  case obj k os =>
    obtain ⟨rfl, h2⟩ := h2
    have dn := (t1.tm R1).denO
    obtain ⟨a, dx, xs, rfl, hs, r⟩ := (t1.tm R1).obj_ R1.ex
    refine ⟨a, dx, _, rfl, hs, ?_⟩
    exact spD_at (W := fun _ _ _ _ => False) (x := noX) R1 XW.no (.cons dn .nil) h1.symm h2 fun d g ρ' v B' H' a1 a2 a3 a4 a5 => q _ _ _ _ B' H' a1 (e1.trans a2) (k1.trans a3) a4 a5
theorem le_sl {f : Str} {p : Addr} {i : Nat} (cc : SlX.SCls T.K (T.cl cn)) (t : SlX.Slot1 T.K (T.cl cn) f p i) : ∀ σ H Q', liftE T W (dSl cn i to) σ H Q' → SlX.tSl T.K (liftE T W to) f σ H Q' := by
  rintro σ H Q' ⟨c, B, ρ, x, Q, R, X, h, q⟩
  refine ⟨c, B, ρ, x, _, R, X, h, fun d g ρ1 v B1 H1 h2 e1 k1 R1 t1 => ?_⟩
  cases d <;> first | exact h2.elim | skip
  case obj k os =>
    obtain ⟨rfl, h2⟩ := h2
    obtain ⟨a, dx, xs, rfl, hs, r⟩ := (t1.tm R1).obj_ R1.ex
    unfold nth at h2
    split at h2
    · rename_i e he
      obtain ⟨v, hv, n⟩ := r.get he
      exact ⟨a, _, dx, p, _, i, v, rfl, hs, cc, t, by rw [List.getElem?_map, hv]; rfl, q _ _ _ _ B1 H1 h2 e1 k1 R1 (.p n)⟩
    · exact h2.elim
end

/-! ### __init__ of a class with slots: statements, then one store a slot, in order -/
abbrev RSI := (List D → Prop) → List D → XQ → Env → Prop
abbrev SpsI := List D → (List D → Prop) → (D → Prop) → Prop
def iPre (a : RS) (b : RSI) : RSI := fun st acc x ρ => a { nx := fun ρ1 => ρ1[0]? = ρ[0]? ∧ b st acc x ρ1, rt := fun _ _ _ => False, ex := x } ρ
def iSt (te : RE) (b : RSI) : RSI := fun st acc x ρ => te x ρ fun d g ρ1 => frz (List.range ρ1.length) (leak d g ρ1) = ρ ∧ b st (acc ++ [d]) x ρ
def iEnd : RSI := fun st acc _ _ => st acc
def liftSI (T : Tx) (W : WX) (cn : Nat) (t : RSI) : TS := fun Dn σ H => ∃ (c : Dx T) (B G : Hp) (ρ : Env) (st : List D → Prop) (xd : D → Prop) (a dx : Addr) (xs : List V) (acc : List D),
  Rel c σ B H ρ ∧ ρ[0]? = some (.sh (.adr a)) ∧ c.fb a ∧ c.fb dx ∧ dx ≠ a ∧ SlX.Slt c.H0 a (T.cl cn) dx (xs.map some) ∧ Dens c B xs acc ∧ G a = none ∧ G dx = none ∧ ExP c G c.H0 ∧ t st acc (fun e _ => xd e) ρ ∧
  (∀ ds σ' B' H' xs', st ds → Ex B B' → ExP c G H' → Hold c B' H' → SlX.Slt H' a (T.cl cn) dx (xs'.map some) → Dens c B' xs' ds → Dn.nx σ' H') ∧
  (∀ e cls dd σ' B' H', xd e → Ex B B' → ExP c G H' → Hold c B' H' → XDen c B' cls dd e → W cls dd σ' H')
/-- the slots' known values grow at the end -/
theorem putS_end {xs : List V} {y : V} : SlX.putS xs.length y (xs.map some) = (xs ++ [y]).map some := by
  unfold SlX.putS
  apply List.ext_getElem?
  intro j
  simp [List.getElem?_set, List.getElem?_append]
theorem frz_range_own {ρ : Env} {i : Nat} {d : D} (h : (frz (List.range ρ.length) ρ)[i]? = some (.own d)) : False := by
  obtain ⟨h1, h2⟩ := frz_own _ h
  exact h2 (List.mem_range.mpr (List.getElem?_eq_some_iff.mp h1).1)
/-- a store into an instance that is left alone: a new entry heap -/
theorem Rel.store {T : Tx} {c : Dx T} {σ : L2.St} {B H : Hp} {ρ : Env} (R : Rel c σ B H ρ) (no : ∀ (i : Nat) (d : D), ρ[i]? = some (Sl.own d) → False) {a C dx : Addr} {vs : List (Option V)} (fa : c.fb a) (fd : c.fb dx) :
    Rel (c.ent (SlX.slH H a C dx vs) c.fb) σ B (SlX.slH H a C dx vs) ρ := by
  obtain ⟨_, ba, pa⟩ := R.fb a fa
  obtain ⟨_, bd, pd⟩ := R.fb dx fd
  refine ⟨fun b o hb => ?_, fun b hb => ?_, ExP.rfl', fun b hb => ?_, R.len, fun i o s h1 h2 => ?_, fun i j b d e h1 h2 => (no i d h2).elim⟩
  · have n1 : b ≠ a := ne_of_none hb ba
    have n2 : b ≠ dx := ne_of_none hb bd
    rw [SlX.slH_ne n1 n2]; exact R.ex b o hb
  · obtain ⟨h1, x, y, z, hx, r⟩ := R.pail b hb
    exact ⟨h1, x, y, z, by rw [SlX.slH_ne (fun e => pa (by rw [← e]; exact hb)) (fun e => pd (by rw [← e]; exact hb))]; exact hx, r⟩
  · obtain ⟨⟨o, ho⟩, h2, h3⟩ := R.fb b hb
    refine ⟨?_, h2, h3⟩
    by_cases n1 : b = a
    · subst n1; exact ⟨_, upd_same⟩
    · by_cases n2 : b = dx
      · subst n2; exact ⟨_, by unfold SlX.slH; rw [upd_ne n1, upd_same]⟩
      · exact ⟨o, by rw [SlX.slH_ne n1 n2]; exact ho⟩
  · have z := R.sl i o s h1 h2
    cases z with
    | no => exact .no
    | sh z => exact .sh (z.ent _ _)
    | own _ _ => exact (no _ _ h2).elim
section
variable {T : Tx} {W : WX} {cn : Nat}
theorem ExP.slt {c : Dx T} {H H' : Hp} {a C dx : Addr} {vs : List (Option V)} (k : ExP c H H') (h : SlX.Slt H a C dx vs) (pa : c.pa ≠ some a) (pd : c.pa ≠ some dx) : SlX.Slt H' a C dx vs := by
  rcases h with ⟨h1, h2⟩ | ⟨h1, h2⟩
  · exact .inl ⟨k _ _ pa h1, h2⟩
  · exact .inr ⟨k _ _ pa h1, k _ _ pd h2⟩
theorem lsi_end : ∀ D σ H, liftSI T W cn iEnd D σ H → tNext D σ H := by
  rintro D σ H ⟨c, B, G, ρ, st, xd, a, dx, xs, acc, R, z0, fa, fd, ne, sl, dn, ga, gd, eg, h, q, qx⟩
  exact q acc σ B H xs h Ex.rfl' (eg.trans R.ent) R.hold (R.ent.slt sl (R.fb a fa).2.2 (R.fb dx fd).2.2) dn
theorem lsi_pre {a : RS} {b : RSI} : ∀ D σ H, liftSI T W cn (iPre a b) D σ H → tSeq (liftS T W a) (liftSI T W cn b) D σ H := by
  rintro D σ H ⟨c, B, G, ρ, st, xd, a, dx, xs, acc, R, z0, fa, fd, ne, sl, dn, ga, gd, eg, h, q, qx⟩
  refine ⟨c, B, ρ, _, R, fun e ρ' cls dd σ' B' H' he eb R' xd => qx e cls dd σ' B' H' he eb (eg.trans R'.ent) R'.hold xd, h, fun ρ1 σ1 B1 H1 h1 e1 R1 => ?_, fun _ _ _ _ _ _ _ z => z.elim, fun _ _ _ _ z => z.elim, fun _ _ _ _ z => z.elim⟩
  exact ⟨c, B1, G, ρ1, st, xd, a, dx, xs, acc, R1, by rw [h1.1]; exact z0, fa, fd, ne, sl, dn.mono e1, ga, gd, eg, h1.2, fun ds σ' B' H' xs' a1 a2 => q ds σ' B' H' xs' a1 (e1.trans a2), fun e cls dd σ' B' H' a1 a2 => qx e cls dd σ' B' H' a1 (e1.trans a2)⟩
theorem lsi_st {te : RE} {b : RSI} {f : Str} {p : Addr} {i : Nat} (cc : SlX.SCls T.K (T.cl cn)) (t : SlX.Slot1 T.K (T.cl cn) f p i) : ∀ D σ H, liftSI T W cn (fun st acc x ρ => acc.length = i ∧ iSt te b st acc x ρ) D σ H →
    tSeq (SlX.sSl T.K (tVar 0) (liftE T W te) f) (liftSI T W cn b) D σ H := by
  rintro D σ H ⟨c, B, G, ρ, st, xd, a, dx, xs, acc, R, z0, fa, fd, ne, sl, dn, ga, gd, eg, ⟨hi, h⟩, q, qx⟩
  refine ⟨c, B, ρ, _, _, R, fun e ρ' cls dd σ' B' H' he eb R' xd => qx e cls dd σ' B' H' he eb (eg.trans R'.ent) R'.hold xd, h, fun d g ρ1 v B1 H1 h1 e1 k1 R1 t1 => ?_⟩
  obtain ⟨hρ, h1⟩ := h1
  obtain ⟨B2, e2, R2, n2⟩ := leak_ok R1 t1
  obtain ⟨B3, e3, R3⟩ := frz_ok (List.range ρ1.length) R2
  have ll : (leak d g ρ1).length = ρ1.length := by unfold leak; split <;> simp
  rw [hρ] at R3
  have no : ∀ (i : Nat) (d : Dc.D), ρ[i]? = some (Sl.own d) → False := fun i d z => by
    rw [← hρ, ← ll] at z
    exact frz_range_own z
  have l0 : 0 < σ.length := by rw [R.len]; exact (List.getElem?_eq_some_iff.mp z0).1
  obtain ⟨o0, ho0⟩ : ∃ o, σ[0]? = some o := ⟨σ[0], by simp [l0]⟩
  have v0 : σ[0]? = some (some (.ref a)) := by
    have s := R.sl 0 o0 _ ho0 z0
    cases s with
    | sh s => cases s with | adr => exact ho0
  have hs : SlX.Slt H1 a (T.cl cn) dx (xs.map some) := R1.ent.slt sl (R.fb a fa).2.2 (R.fb dx fd).2.2
  refine ⟨.ref a, v0, a, T.cl cn, dx, p, xs.map some, i, rfl, hs, cc, t, ?_⟩
  have el : i = xs.length := by rw [dn.length]; exact hi.symm
  rw [el, putS_end]
  have R4 := R3.store no (C := T.cl cn) (vs := (xs ++ [v]).map some) fa fd
  refine ⟨_, B3, G, ρ, st, xd, a, dx, xs ++ [v], acc ++ [d], R4, z0, fa, fd, ne, SlX.slH_slt ne, ?_, ga, gd, ?_, h1, fun ds σ' B' H' xs' a1 a2 a3 a4 a5 a6 => ?_, fun e cls dd σ' B' H' a1 a2 a3 a4 a5 => ?_⟩
  · exact Dens.ent _ _ ((dn.mono (e1.trans (e2.trans e3))).append (.cons (n2.mono e3) .nil))
  · intro b o hn hb
    have n1 : b ≠ a := ne_of_none hb ga
    have n3 : b ≠ dx := ne_of_none hb gd
    show SlX.slH H1 a (T.cl cn) dx _ b = some o
    rw [SlX.slH_ne n1 n3]
    exact R1.ent b o hn (eg b o hn hb)
  · exact q ds σ' B' H' xs' a1 ((e1.trans (e2.trans e3)).trans a2) a3 ⟨a4.ex, a4.pail, a4.fb⟩ a5 (Dens.to (c := c.ent (SlX.slH H1 a (T.cl cn) dx ((xs ++ [v]).map some)) c.fb) (c' := c) rfl a6)
  · exact qx e cls dd σ' B' H' a1 ((e1.trans (e2.trans e3)).trans a2) a3 ⟨a4.ex, a4.pail, a4.fb⟩ (XDen.to (c := c.ent (SlX.slH H1 a (T.cl cn) dx ((xs ++ [v]).map some)) c.fb) (c' := c) rfl a5)
end
/-- the promise of an __init__ -/
def spI (T : Tx) (cn n : Nat) (sp : SpsI) : Sp := fun vs H Q E => ∃ (c : Dx T) (B G : Hp) (a dx : Addr) (ws : List V) (ds : List D) (Qd : List D → Prop) (xd : D → Prop), vs = .ref a :: ws ∧ c.H0 = H ∧ Hold c B H ∧ c.fb a ∧ c.fb dx ∧ dx ≠ a ∧
  H a = some (.ins (T.cl cn) dx []) ∧ G a = none ∧ G dx = none ∧ ExP c G H ∧ Dens c B ws ds ∧ ds.length + 1 = n ∧ sp ds Qd xd ∧
  (∀ os B' H' xs, Qd os → Ex B B' → ExP c G H' → Hold c B' H' → SlX.Slt H' a (T.cl cn) dx (xs.map some) → Dens c B' xs os → Q .non H') ∧
  (∀ e cls dd B' H', xd e → Ex B B' → ExP c G H' → Hold c B' H' → XDen c B' cls dd e → E cls dd H')
theorem fnI_ok {P : Program} {w : World} {T : Tx} {mg : Str → Option Value} {base : Heap} {k cn : Nat} {f : Addr} {fd : FuncData} {ps N : List Str} {x qual : Str} {st : Stmt} {sp : SpsI} (t : RSI) (F : Fun T.K x qual st f fd) (S : FnScope N ps (defScope st))
    (hder : ∀ (cdv : Value) (A : Around) (outer : List PySem.Env) (s : Shared) (H : Hp) (E : XK), Room k (A.deeper (PyProof.Rows.envOfC qual (defScope st) s.heap.objs.size f cdv)) → (A.deeper (PyProof.Rows.envOfC qual (defScope st) s.heap.objs.size f cdv)).guards = some [] →
      PSs (cxOf (L2.CX P w) P w T.K mg base N qual (defScope st) f cdv A outer s H E) (defBody st) (liftSI T (fun cls d _ H => E cls d H) cn t))
    (hpure : ∀ a ds Qd xd, ds.length + 1 = ps.length → sp ds Qd xd → t Qd [] (fun e _ => xd e) (startE N (.adr a :: ds))) : FnG P w T.K mg base (k + 1) f fd ps (spI T cn ps.length sp) := by
  refine fnG_of F S (fun vs H Q E h => ?_) fun cdv A outer s H vs Q E hr hg h => ⟨_, hder cdv A outer s H E hr hg, ?_⟩
  · obtain ⟨c, B, G, a, dx, ws, ds, Qd, xd, rfl, _, _, _, _, _, _, _, _, _, r, hl, _⟩ := h
    simp [r.length, hl]
  · obtain ⟨c, B, G, a, dx, ws, ds, Qd, xd, rfl, h0, ho, fa, fd, ne, ha, ga, gd, eg, r, hl, hs, q, qx⟩ := h
    have R := rel_start (N := N) (vs := .ref a :: ws) (ds := .adr a :: ds) ho h0 (.cons .adr r)
    refine ⟨c, B, G, _, Qd, xd, a, dx, [], [], R, by simp [startE], fa, fd, ne, .inl ⟨by rw [h0]; exact ha, rfl⟩, .nil, ga, gd, by rw [h0]; exact eg, hpure a ds Qd xd hl hs, fun os σ' B' H' xs a1 a2 a3 a4 a5 a6 => q os B' H' xs a1 a2 a3 a4 a5 a6, fun e cls dd σ' B' H' a1 a2 a3 a4 a5 => qx e cls dd B' H' a1 a2 a3 a4 a5⟩

/-! ### C(..) -/
def tMkG (C : Addr) (sp : Sp) (W : WX) (t : TA) : TE := fun σ H Q => t σ H fun vs H1 => ∀ x dx, H1 x = none → H1 dx = none → dx ≠ x → sp (.ref x :: vs) (upd (upd H1 dx (.own x)) x (.ins C dx [])) (fun v H2 => v = .non ∧ Q (.ref x) H2) (WE W σ)
section
variable {X : Cx} {k n : Nat} {f C : Addr} {fd : FuncData} {ps ks : List Str} {sp : Sp} {W : WX} {x : Str} {np pos : Pos} {es : List Expr} {kws : List Keyword} {t : TA}
theorem pe_mkG (M : Mk X.K C f) (F : FnG X.prog X.w X.K X.mg X.base k f fd ps sp) (hr : Room (k + 1) X.A) (hgu : X.A.guards = some []) (hm : X.mg x = some (.ref C)) (hb : KB X.K fd ps (n + 1) ks) (tk : Takes X W)
    (ha : PCs X es kws pos n ks t) (hg : Gl X x := by rfl) (hdb : (x == ("__debug__" : Str)) = false := by decide) : PE X (.Call (.Name x np) es kws pos) (tMkG C sp W t) := by
  refine ⟨fun pins s σ H Q I h => wpAny_Call_Name_kw (ld_glob I hg hm ?_ hdb)⟩
  refine ha.run X.K.In _ [] pins s σ H _ _ (keeps_K M.kp) I (fun _ _ I => I.kIn) h fun us ws vs H2 s2 I2 r l1 l2 q => ?_
  have hq := q (s2.heap.objs.size + 1) s2.heap.objs.size (I2.hok.fresh (Nat.le_succ _)) (I2.hok.fresh (Nat.le_refl _)) (Nat.ne_of_lt (Nat.lt_succ_self _))
  have I3 := Inv.made (C := C) I2
  refine wpAny_call (make_map (f := f) I2.kIn M.makes M.init (beq_iff_eq.mp M.fn) (codeAny_mono (F.run _ X.stack _ _ ⟨Value.ref (s2.heap.objs.size + 1) :: us, ks.zip ws⟩ (Value.ref (s2.heap.objs.size + 1) :: (us ++ ws)) _ _ _ (hr.make C us (ks.zip ws)) hgu
    (I3.env0.make C us (ks.zip ws)) (hb _ (Value.ref (s2.heap.objs.size + 1) :: us) ws I3.kIn (by simp [l1]) l2) (.cons (show RelV (V.ref (s2.heap.objs.size + 1)) (Value.ref (s2.heap.objs.size + 1)) from rfl) r) hq) fun r s' hq' => ?_))
  cases r with
  | error e => exact passAt tk σ pins _ _ e s' I3 hq'
  | ok fl =>
    cases fl with
    | ret u =>
      obtain ⟨v, H', I4, rv, ev, q3⟩ := I3.after hq'
      subst ev
      exact ⟨rv, ⟨V.ref (s2.heap.objs.size + 1), H', I4, rfl, q3⟩⟩
    | next => exact False.elim hq'
    | brk => exact False.elim hq'
    | cont => exact False.elim hq'
end
def dMake (cn n : Nat) (sp : SpsI) (ta : RA) : RE := fun x ρ Q => ta x ρ fun ds ρ1 => ds.length + 1 = n ∧ sp ds (fun os => Q (.obj cn os) .p ρ1) (fun e => x e ρ1)
theorem le_make {T : Tx} {W : WX} {cn n : Nat} {sp : SpsI} {ta : RA} : ∀ σ H Q', liftE T W (dMake cn n sp ta) σ H Q' → tMkG (T.cl cn) (spI T cn n sp) W (liftA T W ta) σ H Q' := by
  rintro σ H Q' ⟨c, B, ρ, x, Q, R, X, h, q⟩
  refine ⟨c, B, ρ, x, _, R, X, h, fun ds ρ1 vs B1 H1 h1 e1 k1 R1 t1 => fun a dx na nd ne => ?_⟩
  have fr : ∀ b, (c.fb b ∨ ∃ (i : Nat) (d : D), σ[i]? = some (some (V.ref b)) ∧ ρ1[i]? = some (Sl.own d)) → (∃ o, H1 b = some o) ∧ B1 b = none ∧ c.pa ≠ some b := fun b hb => by
    rcases hb with hb | ⟨i, d, w1, w2⟩
    · exact R1.fb b hb
    · obtain ⟨m, o⟩ := R1.ownB w1 w2
      exact ⟨o.there, m.b, m.p⟩
  have bn : B1 a = none ∧ B1 dx = none := ⟨R1.ex.free na, R1.ex.free nd⟩
  have pn : c.pa ≠ some a ∧ c.pa ≠ some dx := ⟨(R1.mine na).p, (R1.mine nd).p⟩
  have H2e : ∀ b o, H1 b = some o → (upd (upd H1 dx (.own a)) a (.ins (T.cl cn) dx [])) b = some o := fun b o hb => by
    rw [upd_ne (ne_of_none hb na), upd_ne (ne_of_none hb nd)]; exact hb
  let c2 : Dx T := c.ent (upd (upd H1 dx (.own a)) a (.ins (T.cl cn) dx [])) fun b => (c.fb b ∨ ∃ (i : Nat) (d : D), σ[i]? = some (some (V.ref b)) ∧ ρ1[i]? = some (Sl.own d)) ∨ b = a ∨ b = dx
  have ho : Hold c2 B1 (upd (upd H1 dx (.own a)) a (.ins (T.cl cn) dx [])) := by
    refine ⟨fun b o hb => H2e b o (R1.ex b o hb), fun b hb => ?_, fun b hb => ?_⟩
    · obtain ⟨z1, x1, y1, w1, hx, r⟩ := R1.pail b hb
      exact ⟨z1, x1, y1, w1, H2e b _ hx, r⟩
    · rcases hb with hb | rfl | rfl
      · obtain ⟨⟨o, ho⟩, z2, z3⟩ := fr b hb
        exact ⟨⟨o, H2e b o ho⟩, z2, z3⟩
      · exact ⟨⟨_, upd_same⟩, bn.1, pn.1⟩
      · exact ⟨⟨_, by rw [upd_ne ne, upd_same]⟩, bn.2, pn.2⟩
  refine ⟨c2, B1, H1, a, dx, vs, ds, _, _, rfl, rfl, ho, .inr (.inl rfl), .inr (.inr rfl), ne, upd_same, na, nd, (fun b o _ hb => H2e b o hb), Dens.to (c := c) (c' := c2) rfl t1, h1.1, h1.2, fun os B' H' xs hq eb kg ho' hs hd => ⟨rfl, ?_⟩, fun e cls dd B' H' hx eb kg ho' hd => ?_⟩
  · have ba := (ho'.fb a (.inr (.inl rfl))).2.1
    have bd := (ho'.fb dx (.inr (.inr rfl))).2.1
    let B2 : Hp := fun b => if b = a ∨ b = dx then H' b else B' b
    have E2 : Ex B' B2 := fun b o hb => by
      have n1 : b ≠ a := ne_of_none hb ba
      have n2 : b ≠ dx := ne_of_none hb bd
      show (if b = a ∨ b = dx then H' b else B' b) = some o
      rw [if_neg (by simp [n1, n2])]; exact hb
    have E3 : Ex B2 H' := fun b o hb => by
      have hb : (if b = a ∨ b = dx then H' b else B' b) = some o := hb
      split at hb
      · exact hb
      · exact ho'.ex b o hb
    have ne2 : ∀ b, (∃ o, H1 b = some o) → B' b = none → B2 b = none := fun b ⟨o, hb⟩ hn => by
      show (if b = a ∨ b = dx then H' b else B' b) = none
      rw [if_neg (by rintro (z | z) <;> subst z <;> simp_all)]; exact hn
    have R2 : Rel c σ B2 H' ρ1 := by
      refine R1.grow (eb.trans E2) E3 kg (fun b hb => ?_) (fun b d i w1 w2 => ?_) (fun b hb => ?_)
      · obtain ⟨z1, z2⟩ := ho'.pail b hb
        obtain ⟨_, x1, y1, w1, hx, _⟩ := R1.pail b hb
        exact ⟨ne2 b ⟨_, hx⟩ z1, z2⟩
      · exact ne2 b (fr b (.inr ⟨i, d, w1, w2⟩)).1 (ho'.fb b (.inl (.inr ⟨i, d, w1, w2⟩))).2.1
      · exact ne2 b (fr b (.inl hb)).1 (ho'.fb b (.inl (.inl hb))).2.1
    have sB : SlX.Slt B2 a (T.cl cn) dx (xs.map some) := by
      have g1 : B2 a = H' a := if_pos (.inl rfl)
      have g2 : B2 dx = H' dx := if_pos (.inr rfl)
      rcases hs with ⟨s1, s2⟩ | ⟨s1, s2⟩
      · exact .inl ⟨by rw [g1]; exact s1, s2⟩
      · exact .inr ⟨by rw [g1]; exact s1, by rw [g2]; exact s2⟩
    exact q _ _ _ _ B2 H' hq (e1.trans (eb.trans E2)) (k1.trans kg) R2 (.p (.obj sB ((Dens.to (c := c2) (c' := c) rfl hd).mono E2)))
  · have R2 : Rel c σ B' H' ρ1 := R1.grow eb ho'.ex kg (fun b hb => ho'.pail b hb) (fun b d i w1 w2 => (ho'.fb b (.inl (.inr ⟨i, d, w1, w2⟩))).2.1) (fun b hb => (ho'.fb b (.inl (.inl hb))).2.1)
    exact X e ρ1 cls dd σ B' H' hx (e1.trans eb) R2 (XDen.to (c := c2) (c' := c) rfl hd)
end Dc
set_option maxHeartbeats 1000000
/-! Data calculus 8: the rules of the hand layer with readings over data. -/
namespace Dc
open PySem L2 PyProof.Rows PySem.W

abbrev F2 := D → D → (D → Tag → Prop) → Prop
abbrev F1 := D → (D → Tag → Prop) → Prop
abbrev FN := List D → (D → Tag → Prop) → Prop
abbrev FM := D → List D → (D → Tag → Prop) → Prop
/-- a rule on values that is just what is asked of the data -/
def r2D (T : Tx) (f : F2) : R2 := fun v1 v2 H Q' => ∃ (c : Dx T) (B : Hp) (d1 d2 : D) (k : D → Tag → Prop), Ex B H ∧ Tm c B H v1 d1 ∧ Tm c B H v2 d2 ∧ f d1 d2 k ∧ ∀ d g v H', k d g → Res c B H H' v d g → Q' v H'
def r1D (T : Tx) (f : F1) : V → Hp → VK → Prop := fun v1 H Q' => ∃ (c : Dx T) (B : Hp) (d1 : D) (k : D → Tag → Prop), Ex B H ∧ Tm c B H v1 d1 ∧ f d1 k ∧ ∀ d g v H', k d g → Res c B H H' v d g → Q' v H'
def rND (T : Tx) (f : FN) : List V → Hp → VK → Prop := fun vs H Q' => ∃ (c : Dx T) (B : Hp) (ds : List D) (k : D → Tag → Prop), Ex B H ∧ Tms c B H vs ds ∧ f ds k ∧ ∀ d g v H', k d g → Res c B H H' v d g → Q' v H'
def rMD (T : Tx) (f : FM) : V → List V → Hp → VK → Prop := fun v vs H Q' => ∃ (c : Dx T) (B : Hp) (d1 : D) (ds : List D) (k : D → Tag → Prop), Ex B H ∧ Tm c B H v d1 ∧ Tms c B H vs ds ∧ f d1 ds k ∧ ∀ d g v H', k d g → Res c B H H' v d g → Q' v H'
theorem p2D {T : Tx} {f : F2} : P2 T (r2D T f) f := fun c B H v1 v2 d1 d2 k Q' a b e h q => ⟨c, B, d1, d2, k, a, b, e, h, q⟩
theorem p1D {T : Tx} {f : F1} : P1 T (r1D T f) f := fun c B H v1 d1 k Q' a b h q => ⟨c, B, d1, k, a, b, h, q⟩
theorem pND {T : Tx} {f : FN} : PN T (rND T f) f := fun c B H vs ds k Q' a b h q => ⟨c, B, ds, k, a, b, h, q⟩

section
variable {X : Cx} {T : Tx} {W : WX} {a b c e : Expr} {es : List Expr} {ra rb rc re : RE} {rs rr : RA} {rt ru : RT} {pos : Pos}
theorem qe_var (i : Nat) {x : Str} (hN : X.N[i]? = some x := by rfl) (hv : Vis X.env.scope x := by first | exact Or.inl rfl | exact Or.inr (Or.inl rfl) | exact Or.inr (Or.inr rfl)) (hd : (x == ("__debug__" : Str)) = false := by decide)
    (hcd : (x == ("__classdict__" : Str)) = false := by decide) : PE X (.Name x pos) (liftE T W (dVar i)) := (pe_var hN hv hd hcd).imp le_var
theorem qe_int {i : Int} {j} : PE X (.Constant (.int i) j pos) (liftE T W (dC (.int i))) := pe_int.imp (le_c fun _ _ => .int i)
theorem qe_bl {i : Bool} {j} : PE X (.Constant (.bool i) j pos) (liftE T W (dC (.bl i))) := pe_bl.imp (le_c fun _ _ => .bl i)
theorem qe_str {i : Str} {j} : PE X (.Constant (.str i) j pos) (liftE T W (dC (.str i))) := pe_str.imp (le_c fun _ _ => .str i)
theorem qe_non {j} : PE X (.Constant .none j pos) (liftE T W (dC .non)) := pe_non.imp (le_c fun _ _ => .non)
/-- a constant of the module -/
theorem qe_glob {x : Str} {v : V} {u : Value} {d : D} (hm : X.mg x = some u) (r : RelV v u) (n : ∀ (c : Dx T) B, Den c B v d) (hg : Gl X x := by rfl) (hd : (x == ("__debug__" : Str)) = false := by decide) : PE X (.Name x pos) (liftE T W (dC d)) := (pe_glob hg hm r hd).imp (le_c n)
/-- a built-in thing as a value -/
theorem qe_op {op : Operator} {f : F2} (ho : OpR X (binaryOp op) (r2D T f)) (ha : PE X a (liftE T W ra)) (hb : PE X b (liftE T W rb)) : PE X (.BinOp a op b pos) (liftE T W (dOp f ra rb)) := (pe_op ho ha hb).imp (le_op p2D)
theorem qe_un {op : UnaryOp} {f : F1} (ho : UnR X (unaryOp op) (r1D T f)) (ha : PE X a (liftE T W ra)) : PE X (.UnaryOp op a pos) (liftE T W (dUn f ra)) := (pe_un ho ha).imp (le_un p1D)
theorem qe_cmp {op : CmpOp} {f : F2} (ho : OpR X (compareOp op) (r2D T f)) (ha : PE X a (liftE T W ra)) (hb : PE X b (liftE T W rb)) (hm : behindInMarks op b = false := by first | exact nobehind _ (by decide) (by decide) | rfl) :
    PE X (.Compare a [op] [b] pos) (liftE T W (dOp f ra rb)) := (pe_cmpR ho ha hb hm).imp (le_op p2D)
theorem qt_cmp {op : CmpOp} {f : F2} (ho : OpR X (compareOp op) (r2D T f)) (ha : PE X a (liftE T W ra)) (hb : PE X b (liftE T W rb)) (hm : behindInMarks op b = false := by first | exact nobehind _ (by decide) (by decide) | rfl) :
    PT X (.Compare a [op] [b] pos) (liftT T W (dTest (dOp f ra rb))) := (pt_cmpR ho ha hb hm).imp (lt_cmp p2D)
theorem qe_chain {op op' : CmpOp} {f g : F2} (ho : OpR X (compareOp op) (r2D T f)) (ho' : OpR X (compareOp op') (r2D T g)) (ha : PE X a (liftE T W ra)) (hb : PE X b (liftE T W rb)) (hc : PE X c (liftE T W rc))
    (hm : lastMarks [op, op'] [b, c] = false := by with_unfolding_all rfl) : PE X (.Compare a [op, op'] [b, c] pos) (liftE T W (dChain f g ra rb rc)) := (pe_chain ho ho' ha hb hc hm).imp (le_chain p2D p2D)
theorem qt_chain {op op' : CmpOp} {f g : F2} (ho : OpR X (compareOp op) (r2D T f)) (ho' : OpR X (compareOp op') (r2D T g)) (ha : PE X a (liftE T W ra)) (hb : PE X b (liftE T W rb)) (hc : PE X c (liftE T W rc))
    (hm : lastMarks [op, op'] [b, c] = false := by with_unfolding_all rfl) : PT X (.Compare a [op, op'] [b, c] pos) (liftT T W (dTest (dChain f g ra rb rc))) := (pt_chain ho ho' ha hb hc hm).imp (lt_chain p2D p2D)
theorem qe_ix {f : F2} (ho : IxR X (r2D T f)) (ha : PE X a (liftE T W ra)) (hb : PE X b (liftE T W rb)) (hs : PlainIx b := by intro _ _; rfl) : PE X (.Subscript a b pos) (liftE T W (dOp f ra rb)) := (pe_ix ho ha hb hs).imp (le_op p2D)
theorem qe_tup {x1} (h : PA X es (liftA T W rs)) : PE X (.Tuple es x1 pos) (liftE T W (dTup rs)) := (pe_tup h).imp le_tup
theorem qe_lst (h : PA X es (liftA T W rs)) : PE X (.List es pos) (liftE T W (dLst rs)) := (pe_lst h).imp le_lst
theorem qe_if (hc : PT X c (liftT T W rt)) (ha : PE X a (liftE T W ra)) (hb : PE X b (liftE T W rb)) : PE X (.IfExp c a b pos) (liftE T W (dIf rt ra rb)) := (pe_ifExp hc ha hb).imp le_if
theorem qe_one {op} (ha : PE X a (liftE T W ra)) : PE X (.BoolOp op [a] pos) (liftE T W ra) := pe_one ha
theorem qe_and (ha : PE X a (liftE T W ra)) (hb : PE X (.BoolOp .And (b :: es) pos) (liftE T W rb)) : PE X (.BoolOp .And (a :: b :: es) pos) (liftE T W (dAndV ra rb)) := (pe_and ha hb).imp le_andV
theorem qe_or (ha : PE X a (liftE T W ra)) (hb : PE X (.BoolOp .Or (b :: es) pos) (liftE T W rb)) : PE X (.BoolOp .Or (a :: b :: es) pos) (liftE T W (dOrV ra rb)) := (pe_or ha hb).imp le_orV
theorem qe_not (ha : PE X a (liftE T W ra)) : PE X (.UnaryOp .Not a pos) (liftE T W (dNotV ra)) := (pe_not ha).imp le_notV
/-! arguments -/
theorem qa_nil : PA X [] (liftA T W dNil) := pa_nil.imp la_nil
theorem qa_cons (ha : PE X e (liftE T W re)) (hr : PA X es (liftA T W rr)) (hs : starEach (e :: es) X.env = (false, eval e X.env) :: starEach es X.env := by rfl) : PA X (e :: es) (liftA T W (dCons re rr)) := (pa_cons ha hr hs).imp la_cons
theorem qa_star {p : Pos} (ha : PE X e (liftE T W re)) (hr : PA X es (liftA T W rr)) (hK : X.K = T.K := by rfl) (hs : starEach (.Starred e p :: es) X.env = (true, eval e X.env) :: starEach es X.env := by rfl) : PA X (.Starred e p :: es) (liftA T W (dStar re rr)) :=
  (StX.pa_star ha hr hs).imp (by rw [hK]; exact la_star)
theorem qb_nil : PA X [] (liftB T W dNil) := pa_nil.imp lb_nil
theorem qb_cons (ha : PE X e (liftE T W re)) (hr : PA X es (liftB T W rr)) (hs : starEach (e :: es) X.env = (false, eval e X.env) :: starEach es X.env := by rfl) : PA X (e :: es) (liftB T W (dConsB re rr)) := (pa_cons ha hr hs).imp lb_cons
theorem qk_nil : PK X [] (liftA T W dNil) := ⟨fun pos pins s σ H Q I h => pk_nil.run pos pins s σ H Q I (la_nil σ H Q h)⟩
theorem qk_cons {nm : Option Str} {kpos : Pos} {kws : List Keyword} (ha : PE X e (liftE T W re)) (hr : PK X kws (liftA T W rr)) : PK X (⟨nm, e, kpos⟩ :: kws) (liftA T W (dCons re rr)) := ⟨fun pos pins s σ H Q I h => (pk_cons ha hr).run pos pins s σ H Q I (la_cons σ H Q h)⟩
/-! built-in functions and types -/
theorem qe_callB {x : Str} {p : Pos} {id : String} {f : FN} (hc : CallR X (.builtin id) (rND T f)) (hm : X.mg x = none) (hv : bootBuiltins x = some (.builtin id)) (ha : PA X (e :: es) (liftB T W rs)) (hg : Gl X x := by rfl) (hn : x ≠ "__name__" := by decide) (hdb : (x == ("__debug__" : Str)) = false := by decide)
    (he : starEach (e :: es) X.env = (false, eval e X.env) :: starEach es X.env := by rfl) (hpl : (backTo pos (starEach es X.env)).any (·.1) = false := by rfl) : PE X (.Call (.Name x p) (e :: es) [] pos) (liftE T W (dCall f rs)) := (pe_callB hc hg hm hv ha hn hdb he hpl).imp (le_callB pND)
theorem qe_callT {x : Str} {p : Pos} {id : String} {f : FN} (hc : CallR X (.type id) (rND T f)) (hm : X.mg x = none) (hv : bootBuiltins x = some (.type id)) (ha : PA X (e :: es) (liftB T W rs)) (hg : Gl X x := by rfl) (hn : x ≠ "__name__" := by decide) (hdb : (x == ("__debug__" : Str)) = false := by decide)
    (he : starEach (e :: es) X.env = (false, eval e X.env) :: starEach es X.env := by rfl) (hpl : (backTo pos (starEach es X.env)).any (·.1) = false := by rfl) : PE X (.Call (.Name x p) (e :: es) [] pos) (liftE T W (dCall f rs)) := (pe_callTy hc hg hm hv ha hn hdb he hpl).imp (le_callB pND)
/-! tests -/
theorem qt_val (ha : PE X a (liftE T W ra)) (he : ∀ whole, isTrue a X.env whole = (do let v ← whole; standAt a.pos; holding [v] (truthy v)) := by intro _; rfl) : PT X a (liftT T W (dTest ra)) := (pt_val ha he).imp lt_test
theorem qt_truth (ha : PE X a (liftE T W ra)) (hK : X.K = T.K := by rfl) (he : ∀ whole, isTrue a X.env whole = (do let v ← whole; standAt a.pos; holding [v] (truthy v)) := by intro _; rfl) : PT X a (liftT T W (dTruth ra)) :=
  (pt_truth ha he).imp (by rw [hK]; exact lt_truth)
theorem qt_not (ha : PT X a (liftT T W rt)) : PT X (.UnaryOp .Not a pos) (liftT T W (dNot rt)) := (pt_not ha).imp lt_not
theorem qw_and1 (ha : PT X a (liftT T W rt)) : PW X (.BoolOp .And [a] pos) (liftT T W rt) := pw_and1 ha
theorem qw_or1 (ha : PT X a (liftT T W rt)) : PW X (.BoolOp .Or [a] pos) (liftT T W rt) := pw_or1 ha
theorem qw_and (ha : PT X a (liftT T W rt)) (hb : PW X (.BoolOp .And (b :: es) pos) (liftT T W ru)) : PW X (.BoolOp .And (a :: b :: es) pos) (liftT T W (dAnd rt ru)) := (pw_and ha hb).imp lt_and
theorem qw_or (ha : PT X a (liftT T W rt)) (hb : PW X (.BoolOp .Or (b :: es) pos) (liftT T W ru)) : PW X (.BoolOp .Or (a :: b :: es) pos) (liftT T W (dOr rt ru)) := (pw_or ha hb).imp lt_or
/-! own defs -/
theorem qe_f {k n n' : Nat} {f : Addr} {fd : FuncData} {ps ks : List Str} {sp : Sps} {x : Str} {np : Pos} {kws : List Keyword} (F : FnG X.prog X.w X.K X.mg X.base k f fd ps (spD T n sp)) (hr : Room k X.A) (hgu : X.A.guards = some []) (hm : X.mg x = some (.ref f)) (hk : keepIn X.K (.ref f) = true)
    (hb : KB X.K fd ps n' ks) (tk : Takes X W) (ha : PCs X es kws pos n' ks (liftA T W rs)) (hg : Gl X x := by rfl) (hdb : (x == ("__debug__" : Str)) = false := by decide) : PE X (.Call (.Name x np) es kws pos) (liftE T W (dOwn n sp rs)) := (pe_fG F hr hgu hm hk hb tk ha hg hdb).imp le_own
theorem qc_nil : PCs X [] [] pos 0 [] (liftA T W dNil) := pcs_nil.imp la_nil
theorem qc_pos {n : Nat} (ha : PA X (e :: es) (liftA T W rs)) (he : starEach (e :: es) X.env = (false, eval e X.env) :: starEach es X.env := by rfl) (hpl : (backTo pos (starEach es X.env)).any (·.1) = false := by rfl) : PCs X (e :: es) [] pos n [] (liftA T W (dPos n rs)) :=
  (pcs_pos ha he hpl).imp la_pos
theorem qc_kw0 {ks : List Str} {kws : List Keyword} (ha : PK X kws (liftA T W rs)) (hall : (backToKw pos (keywordEach kws X.env)).all (·.1.isSome) = true := by rfl) (hks : (backToKw pos (keywordEach kws X.env)).filterMap (·.1) = ks := by rfl)
    (hpl : ((backTo pos (starEach [] X.env)).any (·.1) || (backToKw pos (keywordEach kws X.env)).any (·.1.isNone)) = false := by rfl) : PCs X [] kws pos 0 ks (liftA T W (dPos ks.length rs)) := (pcs_kw0 ha hall hks hpl).imp la_pos
theorem qc_kw {n : Nat} {ks : List Str} {kws : List Keyword} (ha : PA X (e :: es) (liftA T W rs)) (hk : PK X kws (liftA T W rr)) (hall : (backToKw pos (keywordEach kws X.env)).all (·.1.isSome) = true := by rfl) (hks : (backToKw pos (keywordEach kws X.env)).filterMap (·.1) = ks := by rfl)
    (he : starEach (e :: es) X.env = (false, eval e X.env) :: starEach es X.env := by rfl)
    (hpl : ((backTo pos (starEach (e :: es) X.env)).any (·.1) || (backToKw pos (keywordEach kws X.env)).any (·.1.isNone)) = false := by rfl) : PCs X (e :: es) kws pos n ks (liftA T W (dKw n ks.length rs rr)) := (pcs_kw ha hk hall hks he hpl).imp la_kw
/-! instances -/
theorem qe_m {k n n' cn : Nat} {f : Addr} {fd : FuncData} {ps ks : List Str} {sp : Sps} {m : Str} {apos : Pos} {kws : List Keyword} {o : Expr} {ro : RE} {pl : Sem Bool} (c : SlX.SCls X.K (T.cl cn)) (hm : Meth X.K (T.cl cn) m f) (F : FnG X.prog X.w X.K X.mg X.base k f fd ps (spD T n sp)) (hr : Room k X.A) (hgu : X.A.guards = some [])
    (hb : KB X.K fd ps (n' + 1) ks) (tk : Takes X W) (he : PE X o (liftE T W ro)) (ha : PCs X es kws pos n' ks (liftA T W rs))
    (ht : eval (.Call (.Attribute o m apos) es kws pos) X.env = (do
      let ov ← eval o X.env
      standAt apos.atName
      let (f, first) ← holding [ov] (getMethod ov m pl)
      callWith pos f first (backTo pos (starEach es X.env)) (backToKw pos (keywordEach kws X.env))) := by rfl) : PE X (.Call (.Attribute o m apos) es kws pos) (liftE T W (dMeth cn n sp ro rs)) := (pe_mG c hm F hr hgu hb tk he ha ht).imp le_meth
theorem qe_cm {k n n' cn : Nat} {f p : Addr} {fd : FuncData} {ps ks : List Str} {sp : Sps} {m x : Str} {apos np : Pos} {kws : List Keyword} {pl : Sem Bool} {mc : Value} (r : ClX.CRead X.K (T.cl cn) mc) (c : ClX.CMet X.K (T.cl cn) mc m p f) (F : FnG X.prog X.w X.K X.mg X.base k f fd ps (spD T n sp)) (hr : Room k X.A)
    (hgu : X.A.guards = some []) (hb : KB X.K fd ps (n' + 1) ks) (tk : Takes X W) (hx : X.mg x = some (.ref (T.cl cn))) (ha : PCs X es kws pos n' ks (liftA T W rs)) (hg : Gl X x := by rfl) (hd : (x == ("__debug__" : Str)) = false := by decide)
    (ht : eval (.Call (.Attribute (.Name x np) m apos) es kws pos) X.env = (do
      let ov ← eval (.Name x np) X.env
      standAt apos.atName
      let (f, first) ← holding [ov] (getMethod ov m pl)
      callWith pos f first (backTo pos (starEach es X.env)) (backToKw pos (keywordEach kws X.env))) := by rfl) : PE X (.Call (.Attribute (.Name x np) m apos) es kws pos) (liftE T W (dCm (T.cl cn) n sp rs)) :=
  (pe_cmG r c F hr hgu hb tk (pe_glob (v := .ref (T.cl cn)) hg hx rfl hd) ha ht).imp le_cm
theorem qe_prop {k cn : Nat} {f : Addr} {p : Addr} {fd : FuncData} {ps : List Str} {sp : Sps} {m : Str} {o : Expr} {ro : RE} (c : SlX.SCls X.K (T.cl cn)) (at_ : findIn X.K (.ref (T.cl cn)) m = some (some (.ref p))) (get : specialIn X.K (.ref p) "__get__" = some (some (.builtin "property.__get__")))
    (ta : takesIn X.K (.ref p) = some true) (rc : ∃ rest, recIn X.K p "property" = some (.ref f :: rest)) (F : FnG X.prog X.w X.K X.mg X.base k f fd ps (spD T 1 sp)) (hr : Room (k + 1) X.A) (hgu : X.A.guards = some []) (hb : KB X.K fd ps 1 [])
    (he : PE X o (liftE T W ro)) (hbs : attributeBase o m X.env (eval o X.env) = eval o X.env := by rfl) : PE X (.Attribute o m pos) (liftE T W (dProp cn sp ro)) := (pe_propG c at_ get ta rc F hr hgu hb he hbs).imp (le_prop rfl)
theorem qe_sl {cn i : Nat} {f : Str} {p : Addr} {o : Expr} {ro : RE} (cc : SlX.SCls T.K (T.cl cn)) (t : SlX.Slot1 T.K (T.cl cn) f p i) (he : PE X o (liftE T W ro)) (hK : X.K = T.K := by rfl) (hb : attributeBase o f X.env (eval o X.env) = eval o X.env := by rfl) : PE X (.Attribute o f pos) (liftE T W (dSl cn i ro)) :=
  (SlX.pe_sl he hb).imp (by rw [hK]; exact le_sl cc t)
theorem qe_mk {k n n' cn : Nat} {f : Addr} {fd : FuncData} {ps ks : List Str} {sp : SpsI} {x : Str} {np : Pos} {kws : List Keyword} (M : Mk X.K (T.cl cn) f) (F : FnG X.prog X.w X.K X.mg X.base k f fd ps (spI T cn n sp)) (hr : Room (k + 1) X.A) (hgu : X.A.guards = some []) (hm : X.mg x = some (.ref (T.cl cn)))
    (hb : KB X.K fd ps (n' + 1) ks) (tk : Takes X W) (ha : PCs X es kws pos n' ks (liftA T W rs)) (hg : Gl X x := by rfl) (hdb : (x == ("__debug__" : Str)) = false := by decide) : PE X (.Call (.Name x np) es kws pos) (liftE T W (dMake cn n sp rs)) := (pe_mkG M F hr hgu hm hb tk ha hg hdb).imp le_make
end
/-! ### statements -/
section
variable {X : Cx} {T : Tx} {W : WX} {c e : Expr} {st : Stmt} {a b rest : List Stmt} {re : RE} {rt : RT} {s t u : RS} {pos : Pos}
theorem qss_nil : PSs X [] (liftS T W sNext) := pss_nil.imp ls_next
theorem qss_cons (h1 : PS X st (liftS T W s)) (h2 : PSs X rest (liftS T W t)) : PSs X (st :: rest) (liftS T W (sSeq s t)) := (pss_cons h1 h2).imp ls_seq
theorem qss_one (h1 : PS X st (liftS T W s)) : PSs X [st] (liftS T W s) := pss_one h1
theorem qs_pass : PS X (.Pass pos) (liftS T W sNext) := ps_pass.imp ls_next
theorem qs_break : PS X (.Break pos) (liftS T W sBreak) := ps_break.imp ls_break
theorem qs_continue : PS X (.Continue pos) (liftS T W sCont) := ps_continue.imp ls_cont
theorem qs_expr (he : PE X e (liftE T W re)) (hs : swapsWith e none pos.line X.env = pure false := by rfl) : PS X (.Expr e pos) (liftS T W (sDrop re)) := (ps_expr he hs).imp ls_drop
theorem qs_ret (he : PE X e (liftE T W re)) : PS X (.Return (some e) pos) (liftS T W (sRet re)) := (ps_ret he).imp ls_ret
theorem qs_retN : PS X (.Return none pos) (liftS T W sRetN) := ps_retN.imp ls_retN
theorem qs_if (hc : PT X c (liftT T W rt)) (ha : PSs X a (liftS T W s)) (hb : PSs X b (liftS T W t)) : PS X (.If c a b pos) (liftS T W (sIf rt s t)) := (ps_if hc ha hb).imp ls_if
theorem qs_never : PS X st (liftS T W sNever) := ps_never.imp ls_never
theorem qss_never : PSs X a (liftS T W sNever) := pss_never.imp ls_never
theorem qs_set (i : Nat) {x : Str} {pos' : Pos} (hN : X.N.Nodup) (he : PE X e (liftE T W re)) (hi : X.N[i]? = some x := by rfl) (hx : Loc X.env.scope x := by first | exact Or.inl rfl | exact Or.inr rfl) (hs : swapsWith e (some (.Name x pos')) pos.line X.env = pure false := by rfl)
    (hf : X.fn x = true ∨ X.env.scope.names.lookup x = some .local := by first | exact .inl rfl | exact .inr rfl | assumption) : PS X (.Assign [.Name x pos'] e pos) (liftS T W (sSet i re)) := (ps_set hN hi hx he hs hf).imp ls_set
theorem qs_asg {tg : Expr} {js : List Nat} {g : RG} (he : PE X e (liftE T W re)) (hg : PG X tg (liftG T js g)) (hs : swapsWithSole [tg] e pos.line X.env = pure false := by rfl) (hw : swappedStores [tg] e X.env = pure none := by rfl)
    (h1 : (assignEach [tg] X.env).map (·.2) = [assign tg X.env] := by rfl) : PS X (.Assign [tg] e pos) (liftS T W (sAsg re g)) := (ps_asg he hg hs hw h1).imp ls_asg
/-! targets -/
theorem qg_name (i : Nat) {x : Str} (hN : X.N.Nodup) (hi : X.N[i]? = some x := by rfl) (hx : Loc X.env.scope x := by first | exact Or.inl rfl | exact Or.inr rfl) (hf : X.fn x = true ∨ X.env.scope.names.lookup x = some .local := by first | exact .inl rfl | exact .inr rfl | assumption) :
    PG X (.Name x pos) (liftG T [i] (gN i)) := (pg_name hN hi hx hf).imp lg_name
theorem qgs_nil : PGs X [] (liftGs T [] gsNil) := pgs_nil.imp lgs_nil
theorem qgs_cons {tg : Expr} {tgs : List Expr} {js ks : List Nat} {g : RG} {gs : RGs} (h1 : PG X tg (liftG T js g)) (h2 : PGs X tgs (liftGs T ks gs))
    (hs : (assignEach (tg :: tgs) X.env).map (·.2) = assign tg X.env :: (assignEach tgs X.env).map (·.2) := by rfl) : PGs X (tg :: tgs) (liftGs T (js ++ ks) (gsCons g gs)) := (pgs_cons h1 h2 hs).imp lgs_cons
theorem qg_tup {tgs : List Expr} {js : List Nat} {gs : RGs} {k n : Nat} (hc : X.calm = true) (h : PGs X tgs (liftGs T js gs)) (hK : X.K = T.K := by rfl) (hn : (assignEach tgs X.env).length = n := by rfl) (hst : (assignEach tgs X.env).findIdx? (·.1) = none := by rfl) :
    PG X (.Tuple tgs k pos) (liftG T js (gT n gs)) := (pg_tup hc h hn hst).imp (by rw [hK]; exact lg_tup)
theorem qg_lst {tgs : List Expr} {js : List Nat} {gs : RGs} {k n : Nat} (hc : X.calm = true) (h : PGs X tgs (liftGs T js gs)) (hK : X.K = T.K := by rfl) (hn : (assignEach tgs X.env).length = n := by rfl) (hst : (assignEach tgs X.env).findIdx? (·.1) = none := by rfl) :
    PG X (.Tuple tgs k pos) (liftG T js (gL n gs)) := (pg_lst hc h hn hst).imp (by rw [hK]; exact lg_lst)
/-! walks -/
variable {tg iter : Expr} {ri : RI} {js : List Nat} {g : RG}
theorem qi_list (he : PE X e (liftE T W re)) (hK : X.K = T.K := by rfl) : PI X tg e (liftI T W (iL re)) := (pi_list he).imp (by rw [hK]; exact li_list)
theorem qi_tup (he : PE X e (liftE T W re)) (hK : X.K = T.K := by rfl) : PI X tg e (liftI T W (iT re)) := (pi_tup he).imp (by rw [hK]; exact li_tup)
theorem qi_range1 {p : Pos} {rs : RA} (hm : X.mg "range" = none) (ha : PA X [e] (liftB T W rs)) (hg : Gl X "range" := by rfl) (hs : starEach [e] X.env = [(false, eval e X.env)] := by rfl) : PI X tg (.Call (.Name "range" p) [e] [] pos) (liftI T W (iRange1 rs)) := (pi_range1 hg hm ha hs).imp li_range1
theorem qi_range2 {p : Pos} {e' : Expr} {rs : RA} (hm : X.mg "range" = none) (ha : PA X [e, e'] (liftB T W rs)) (hg : Gl X "range" := by rfl) (hs : starEach [e, e'] X.env = [(false, eval e X.env), (false, eval e' X.env)] := by rfl) (hs2 : starEach [e'] X.env = [(false, eval e' X.env)] := by rfl) :
    PI X tg (.Call (.Name "range" p) [e, e'] [] pos) (liftI T W (iRange2 rs)) := (pi_range2 hg hm ha hs hs2).imp li_range2
theorem qs_for (hp : PassesOwn (model X.prog X.w) X.A X.env X.xe) (hc : X.calm = true) (hi : PI X tg iter (liftI T W ri)) (hg : PG X tg (liftG T js g)) (hb : PSs X a (liftS T W s)) (hs : ∀ x, foldedSetIterable iter X.env x = pure x := by intro _; rfl) : PS X (.For tg iter a [] pos) (liftS T W (sFor ri g s)) :=
  (ps_for hp hc hi hg hb hs).imp ls_for
theorem qs_while (hp : PassesOwn (model X.prog X.w) X.A X.env X.xe) (hc : PT X c (liftT T W rt)) (hb : PSs X a (liftS T W s)) : PS X (.While c a [] pos) (liftS T W (sWhile rt s)) := (ps_while hp hc hb).imp ls_while
/-! comprehensions -/
theorem qts_nil : PTs X [] (liftT T W dYes) := pts_nil.imp lt_yes
theorem qts_one (h : PT X c (liftT T W rt)) : PTs X [c] (liftT T W rt) := pts_one h
theorem qe_lc {elt : Expr} {ifs : List Expr} {scope : Scope} (own : List (Str × Nat)) (fz : List Nat) {rt : RT} {re : RE} (hc : X.calm = true) (hN : X.N.Nodup) (hi : PI X tg iter (liftI T W ri)) (ok : BlkOk X.N X.env.scope scope own) (hj : ∀ j ∈ js, j ∈ own.map (·.2))
    (hg : ∀ (s : Shared) (H : Hp) (C : Addr) (cl : List (Str × Addr)) (fp : List Addr), PG (X.blk s H scope (compEnvC scope cl C X.env) fp) tg (liftG T js g)) (ht : ∀ (s : Shared) (H : Hp) (C : Addr) (cl : List (Str × Addr)) (fp : List Addr), PTs (X.blk s H scope (compEnvC scope cl C X.env) fp) ifs (liftT T W0 rt))
    (he : ∀ (s : Shared) (H : Hp) (C : Addr) (cl : List (Str × Addr)) (fp : List Addr), PE (X.blk s H scope (compEnvC scope cl C X.env) fp) elt (liftE T W0 re)) (hs : ∀ x, foldedSetIterable iter X.env x = pure x := by intro _; rfl) :
    PE X (.ListComp elt [⟨tg, iter, ifs, 0⟩] scope pos) (liftE T W (dLc ri fz (own.map (·.2)) g rt re)) := (pe_lc hc hN hi ok hg ht he hs).imp (le_lc hj)
theorem qs_setLc (i : Nat) {y : Str} {py spos : Pos} {elt : Expr} {ifs : List Expr} {scope : Scope} (own : List (Str × Nat)) (fz : List Nat) {rt : RT} {re : RE} (hc : X.calm = true) (hN : X.N.Nodup) (hi : PI X tg iter (liftI T W ri)) (ok : BlkOk X.N X.env.scope scope own) (hj : ∀ j ∈ js, j ∈ own.map (·.2))
    (hg : ∀ (s : Shared) (H : Hp) (C : Addr) (cl : List (Str × Addr)) (fp : List Addr), PG (X.blk s H scope (compEnvC scope cl C X.env) fp) tg (liftG T js g)) (ht : ∀ (s : Shared) (H : Hp) (C : Addr) (cl : List (Str × Addr)) (fp : List Addr), PTs (X.blk s H scope (compEnvC scope cl C X.env) fp) ifs (liftT T W0 rt))
    (he : ∀ (s : Shared) (H : Hp) (C : Addr) (cl : List (Str × Addr)) (fp : List Addr), PE (X.blk s H scope (compEnvC scope cl C X.env) fp) elt (liftE T W0 re)) (hy : X.N[i]? = some y := by rfl) (hyl : X.env.scope.names.lookup y = some .local := by rfl)
    (hsw : swapsWith (.ListComp elt [⟨tg, iter, ifs, 0⟩] scope pos) (some (.Name y py)) spos.line X.env = pure true := by rfl) (hs : ∀ x, foldedSetIterable iter X.env x = pure x := by intro _; rfl) :
    PS X (.Assign [.Name y py] (.ListComp elt [⟨tg, iter, ifs, 0⟩] scope pos) spos) (liftS T W (sSet i (dLc ri fz (own.map (·.2)) g rt re))) :=
  (ps_setLc hc hN hy hyl hsw hi ok hg ht he hs).imp fun D σ H h => by
    have z := ls_set D σ H h
    exact le_lc hj σ H _ z
/-! stores into slots, in an __init__ -/
theorem qsi_pre {cn : Nat} {rp : RSI} (h1 : PS X st (liftS T W s)) (h2 : PSs X rest (liftSI T W cn rp)) : PSs X (st :: rest) (liftSI T W cn (iPre s rp)) := (pss_cons h1 h2).imp lsi_pre
theorem qsi_st {cn i : Nat} {rp : RSI} {f x : Str} {p : Addr} {op apos : Pos} (cc : SlX.SCls T.K (T.cl cn)) (t : SlX.Slot1 T.K (T.cl cn) f p i) (he : PE X e (liftE T W re)) (h2 : PSs X rest (liftSI T W cn rp)) (hK : X.K = T.K := by rfl) (hN : X.N[0]? = some x := by rfl)
    (hv : Vis X.env.scope x := by first | exact Or.inl rfl | exact Or.inr (Or.inl rfl) | exact Or.inr (Or.inr rfl)) (hd : (x == ("__debug__" : Str)) = false := by decide) (hcd : (x == ("__classdict__" : Str)) = false := by decide) (hs : swapsWith e (some (.Attribute (.Name x op) f apos)) pos.line X.env = pure false := by rfl) :
    PSs X (.Assign [.Attribute (.Name x op) f apos] e pos :: rest) (liftSI T W cn (fun st acc x ρ => acc.length = i ∧ iSt re rp st acc x ρ)) := (pss_cons (SlX.ps_sl (pe_var hN hv hd hcd) he hs) h2).imp (by rw [hK]; exact lsi_st cc t)
theorem qsi_end {cn : Nat} : PSs X [] (liftSI T W cn iEnd) := pss_nil.imp lsi_end
end
end Dc
set_option maxHeartbeats 1000000
/-! Data calculus 9: operators by data. -/
namespace Dc
open PySem L2 PyProof.Rows PySem.W

/-! ### data that python shows and compares by itself -/
mutual
def py : D → PyData
  | .non => .none
  | .bl b => .bool b
  | .int i => .int i
  | .str x => .str x
  | .tup xs => .tuple (pys xs)
  | .lst xs => .list (pys xs)
  | _ => .none
def pys : List D → List PyData
  | [] => []
  | x :: xs => py x :: pys xs
end
mutual
/-- no object, no dict in it -/
def flat : D → Bool
  | .non => true
  | .bl _ => true
  | .int _ => true
  | .str _ => true
  | .tup xs => flats xs
  | .lst xs => flats xs
  | _ => false
def flats : List D → Bool
  | [] => true
  | x :: xs => flat x && flats xs
end
mutual
theorem Den.dp {T : Tx} {c : Dx T} {B H : Hp} (ex : Ex B H) : ∀ {v : V} {d : D}, Den c B v d → flat d = true → Dp T.K H v (py d)
  | _, _, .non, _ => .non
  | _, _, .bl b, _ => .bl b
  | _, _, .int i, _ => .int i
  | _, _, .str x, _ => .str x
  | _, _, .tup h r, f => .tup (ex.sqT h) (Dens.dp ex r f)
  | _, _, .lst h n r, f => .lst (.inl (.inl (ex _ _ h))) (Dens.dp ex r f)
  | _, _, .dic _ _ _, f => Bool.noConfusion (show false = true from f)
  | _, _, .obj _ _, f => Bool.noConfusion (show false = true from f)
  | _, _, .ptr _, f => Bool.noConfusion (show false = true from f)
  | _, _, .adr, f => Bool.noConfusion (show false = true from f)
  | _, _, .scr _, f => Bool.noConfusion (show false = true from f)
  | _, _, .tpz _ _ _ _, f => Bool.noConfusion (show false = true from f)
theorem Dens.dp {T : Tx} {c : Dx T} {B H : Hp} (ex : Ex B H) : ∀ {vs : List V} {ds : List D}, Dens c B vs ds → flats ds = true → DpAll T.K H vs (pys ds)
  | _, _, .nil, _ => .nil
  | _, _, .cons h r, f => by
    have f : (flat _ && flats _) = true := f
    rw [Bool.and_eq_true] at f
    exact .cons (Den.dp ex h f.1) (Dens.dp ex r f.2)
end
theorem Tm.dp {T : Tx} {c : Dx T} {B H : Hp} {v : V} {d : D} (ex : Ex B H) (h : Tm c B H v d) (f : flat d = true) : Dp T.K H v (py d) := by
  cases h with
  | den h => exact h.dp ex f
  | own _ h =>
    cases h with
    | lst h r => exact .lst (.inl (.inl h)) (r.dp ex f)
    | dic _ _ => cases f
/-- python compares it by itself: no object in it, its texts of signs that there are, not deep -/
def okEq (d : D) : Prop := flat d = true ∧ SeqAt.shaped (py d) = true
def eqD (a b : D) : Bool := PyData.eqv (py a) (py b)

/-! ### numbers, texts, rows of things -/
def fAdd : F2
  | .int i, .int j, k => k (.int (i + j)) .p
  | .str a, .str b, k => a.length + b.length ≤ sizeLine ∧ k (.str (a ++ b)) .p
  | .lst a, .lst b, k => a.length + b.length ≤ sizeLine ∧ k (.lst (a ++ b)) .f
  | .tup a, .tup b, k => a.length + b.length ≤ sizeLine ∧ k (.tup (a ++ b)) .p
  | _, _, _ => False
def fSub : F2
  | .int i, .int j, k => k (.int (i - j)) .p
  | _, _, _ => False
def fMul : F2
  | .int i, .int j, k => IntMulOk i j ∧ k (.int (i * j)) .p
  | .lst a, .int n, k => -(2 ^ 63) ≤ n ∧ n < 2 ^ 63 ∧ a.length * n.toNat ≤ sizeLine ∧ k (.lst (List.replicate n.toNat a).flatten) .f
  | _, _, _ => False
def fDiv : F2
  | .int i, .int j, k => 0 < j ∧ Builtin.divisionGoesByPylong i j = false ∧ k (.int (i / j)) .p
  | _, _, _ => False
def fMod : F2
  | .int i, .int j, k => 0 < j ∧ k (.int (i % j)) .p
  | _, _, _ => False
def fPow : F2
  | .int i, .int j, k => 0 ≤ j ∧ j ≤ 1000000 ∧ i.natAbs < 2 ^ 64 ∧ k (.int (i ^ j.toNat)) .p
  | _, _, _ => False
def fNeg : F1
  | .int i, k => k (.int (-i)) .p
  | _, _ => False
def fOrd (p : Int → Int → Bool) : F2
  | .int i, .int j, k => k (.bl (p i j)) .p
  | _, _, _ => False
abbrev fLt : F2 := fOrd fun i j => decide (i < j)
abbrev fLe : F2 := fOrd fun i j => decide (i ≤ j)
abbrev fGt : F2 := fOrd fun i j => decide (j < i)
abbrev fGe : F2 := fOrd fun i j => decide (j ≤ i)
def fEq : F2 := fun a b k => okEq a ∧ okEq b ∧ k (.bl (eqD a b)) .p
def fNe : F2 := fun a b k => okEq a ∧ okEq b ∧ k (.bl (!eqD a b)) .p
def isNonD : D → Bool
  | .non => true
  | _ => false
def fIsN (g : Bool → Bool) : F2 := fun a b k => isNonD b = true ∧ k (.bl (g (isNonD a))) .p
def fIn (g : Bool → Bool) : F2 := fun a b k => match b with
  | .lst xs => okEq a ∧ okEq (.lst xs) ∧ k (.bl (g (xs.any fun z => eqD z a))) .p
  | .tup xs => okEq a ∧ okEq (.tup xs) ∧ k (.bl (g (xs.any fun z => eqD z a))) .p
  | .str y => match a with
    | .str x => k (.bl (g (!(Builtin.Str.occurrences y x 0 y.length 1).isEmpty))) .p
    | _ => False
  | _ => False
def fIx : F2 := fun a b k => match b with
  | .int i => match a with
    | .lst xs => ∃ d, atI xs i = some d ∧ k d .p
    | .tup xs => ∃ d, atI xs i = some d ∧ k d .p
    | .str z => z.length ≤ sizeLine ∧ ∃ c, atI z.cps.toList i = some c ∧ k (.str ⟨#[c]⟩) .p
    | .scr ns => ∃ n, atI ns i = some n ∧ k (.int n) .p
    | _ => False
  | _ => False
theorem Dens.at_ {T : Tx} {c : Dx T} {B : Hp} {vs : List V} {ds : List D} (r : Dens c B vs ds) {i : Int} {d : D} (h : atI ds i = some d) : ∃ v, atI vs i = some v ∧ Den c B v d := by
  unfold atI at h ⊢
  rw [← r.length] at h
  cases e : ixN vs.length i with
  | none => rw [e] at h; cases h
  | some j =>
    rw [e] at h
    obtain ⟨v, hv, n⟩ := r.get (show ds[j]? = some d from h)
    exact ⟨v, hv, n⟩
theorem pys_any : ∀ (xs : List D) (a : PyData), (pys xs).any (fun z => PyData.eqv z a) = xs.any fun z => PyData.eqv (py z) a
  | [], _ => rfl
  | x :: xs, a => by
    show (PyData.eqv (py x) a || (pys xs).any _) = (PyData.eqv (py x) a || xs.any _)
    rw [pys_any xs a]
section
variable {X : Cx} {T : Tx}
theorem Tm.isNon {c : Dx T} {B H : Hp} {v : V} {d : D} (h : Tm c B H v d) : decide (v = .non) = isNonD d := by
  cases h with
  | den h => cases h <;> simp [isNonD]
  | own _ h => cases h <;> simp [isNonD]
theorem opd_add (hK : X.K = T.K := by rfl) : OpR X (binaryOp .Add) (r2D T fAdd) := by
  rintro pins s σ H x y v u Q I rx ry ⟨c, B, d1, d2, k, ex, t1, t2, h, q⟩
  unfold fAdd at h
  split at h
  · have e1 := t1.int_; have e2 := t2.int_; subst e1 e2
    exact op_add pins s σ H _ _ v u Q I rx ry ⟨_, _, rfl, rfl, q _ _ _ _ h (Res.int _)⟩
  · have e1 := t1.str_; have e2 := t2.str_; subst e1 e2
    exact op_add_str pins s σ H _ _ v u Q I rx ry ⟨_, _, rfl, rfl, h.1, q _ _ _ _ h.2 (Res.str _)⟩
  · obtain ⟨a, xs, rfl, h1, r1⟩ := t1.list ex
    obtain ⟨b, ys, rfl, h2, r2⟩ := t2.list ex
    exact op_cat pins s σ H _ _ v u Q I rx ry ⟨_, _, _, _, rfl, rfl, h1, h2, by rw [r1.length, r2.length]; exact h.1, fun p hp => q _ _ _ _ h.2 (Res.newL ex hp (r1.append r2))⟩
  · obtain ⟨a, xs, rfl, h1, r1⟩ := t1.tuple ex
    obtain ⟨b, ys, rfl, h2, r2⟩ := t2.tuple ex
    refine op_catA pins s σ H _ _ v u Q I rx ry ⟨_, _, _, _, rfl, rfl, by rw [hK]; exact h1, by rw [hK]; exact h2, by rw [r1.length, r2.length]; exact h.1, fun e => ?_, fun _ e => ?_, fun _ _ p hp => q _ _ _ _ h.2 (Res.newT ex hp (r1.append r2))⟩
    · subst e
      cases r1
      cases t2 with
      | den t2 => exact q _ _ _ _ h.2 (Res.den (by simpa using t2))
      | own _ t2 => cases t2
    · subst e
      cases r2
      cases t1 with
      | den t1 => exact q _ _ _ _ h.2 (Res.den (by simpa using t1))
      | own _ t1 => cases t1
  · exact h.elim
theorem opd_sub : OpR X (binaryOp .Sub) (r2D T fSub) := by
  rintro pins s σ H x y v u Q I rx ry ⟨c, B, d1, d2, k, ex, t1, t2, h, q⟩
  unfold fSub at h
  split at h
  · have e1 := t1.int_; have e2 := t2.int_; subst e1 e2
    exact op_sub pins s σ H _ _ v u Q I rx ry ⟨_, _, rfl, rfl, q _ _ _ _ h (Res.int _)⟩
  · exact h.elim
theorem Dens.rep {c : Dx T} {B : Hp} {vs : List V} {ds : List D} (r : Dens c B vs ds) : ∀ n : Nat, Dens c B (List.replicate n vs).flatten (List.replicate n ds).flatten
  | 0 => .nil
  | n + 1 => by
    rw [List.replicate_succ, List.replicate_succ, List.flatten_cons, List.flatten_cons]
    exact r.append (r.rep n)
theorem opd_mul : OpR X (binaryOp .Mult) (r2D T fMul) := by
  rintro pins s σ H x y v u Q I rx ry ⟨c, B, d1, d2, k, ex, t1, t2, h, q⟩
  unfold fMul at h
  split at h
  · have e1 := t1.int_; have e2 := t2.int_; subst e1 e2
    refine (opI (f := binaryOp .Mult) (C := IntMulOk) (g := fun i j => i * j) fun _ _ _ _ _ _ _ hc q => mul_int q hc) pins s σ H _ _ v u Q I rx ry ⟨_, _, rfl, rfl, h.1, q _ _ _ _ h.2 (Res.int _)⟩
  · have e2 := t2.int_; subst e2
    obtain ⟨a, xs, rfl, h1, r1⟩ := t1.list ex
    exact op_rep pins s σ H _ _ v u Q I rx ry ⟨_, _, _, rfl, rfl, h1, h.1, h.2.1, by rw [r1.length]; exact h.2.2.1, fun p hp => q _ _ _ _ h.2.2.2 (Res.newL ex hp (r1.rep _))⟩
  · exact h.elim
theorem opd_div : OpR X (binaryOp .FloorDiv) (r2D T fDiv) := by
  rintro pins s σ H x y v u Q I rx ry ⟨c, B, d1, d2, k, ex, t1, t2, h, q⟩
  unfold fDiv at h
  split at h
  · have e1 := t1.int_; have e2 := t2.int_; subst e1 e2
    refine (opI (f := binaryOp .FloorDiv) (C := fun i j => 0 < j ∧ Builtin.divisionGoesByPylong i j = false) (g := fun i j => i / j) fun i j _ _ _ _ _ hc q => ?_) pins s σ H _ _ v u Q I rx ry ⟨_, _, rfl, rfl, ⟨h.1, h.2.1⟩, q _ _ _ _ h.2.2 (Res.int _)⟩
    have h1 : (0 : Int) < j := hc.1
    exact floordiv_int (by omega) (by rw [Int.fdiv_eq_ediv_of_nonneg i (by omega)]; exact q) (.inl hc.2)
  · exact h.elim
theorem opd_mod : OpR X (binaryOp .Mod) (r2D T fMod) := by
  rintro pins s σ H x y v u Q I rx ry ⟨c, B, d1, d2, k, ex, t1, t2, h, q⟩
  unfold fMod at h
  split at h
  · have e1 := t1.int_; have e2 := t2.int_; subst e1 e2
    exact op_mod pins s σ H _ _ v u Q I rx ry ⟨_, _, rfl, rfl, h.1, q _ _ _ _ h.2 (Res.int _)⟩
  · exact h.elim
theorem opd_pow : OpR X (binaryOp .Pow) (r2D T fPow) := by
  rintro pins s σ H x y v u Q I rx ry ⟨c, B, d1, d2, k, ex, t1, t2, h, q⟩
  unfold fPow at h
  split at h
  · have e1 := t1.int_; have e2 := t2.int_; subst e1 e2
    exact op_pow pins s σ H _ _ v u Q I rx ry ⟨_, _, rfl, rfl, ⟨h.1, h.2.1, h.2.2.1⟩, q _ _ _ _ h.2.2.2 (Res.int _)⟩
  · exact h.elim
theorem opd_neg : UnR X (unaryOp .USub) (r1D T fNeg) := by
  rintro pins s σ H x v Q I rx ⟨c, B, d1, k, ex, t1, h, q⟩
  unfold fNeg at h
  split at h
  · have e1 := t1.int_; subst e1
    exact un_neg pins s σ H _ v Q I rx ⟨_, rfl, q _ _ _ _ h (Res.int _)⟩
  · exact h.elim
theorem opd_ord {op : CmpOp} {p : Int → Int → Bool} (ho : OpR X (compareOp op) (rI0 fun i j => .bl (p i j))) : OpR X (compareOp op) (r2D T (fOrd p)) := by
  rintro pins s σ H x y v u Q I rx ry ⟨c, B, d1, d2, k, ex, t1, t2, h, q⟩
  unfold fOrd at h
  split at h
  · have e1 := t1.int_; have e2 := t2.int_; subst e1 e2
    exact ho pins s σ H _ _ v u Q I rx ry ⟨_, _, rfl, rfl, q _ _ _ _ h (Res.bl _)⟩
  · exact h.elim
theorem opd_lt : OpR X (compareOp .Lt) (r2D T fLt) := opd_ord op_lt
theorem opd_le : OpR X (compareOp .LtE) (r2D T fLe) := opd_ord op_le
theorem opd_gt : OpR X (compareOp .Gt) (r2D T fGt) := opd_ord op_gt
theorem opd_ge : OpR X (compareOp .GtE) (r2D T fGe) := opd_ord op_ge
theorem opd_eq {n : Nat} (hr : Room n X.A) (hK : X.K = T.K := by rfl) : OpR X (compareOp .Eq) (r2D T fEq) := by
  rintro pins s σ H x y v u Q I rx ry ⟨c, B, d1, d2, k, ex, t1, t2, ⟨h1, h2, h⟩, q⟩
  exact op_eqD hr.units pins s σ H _ _ v u Q I rx ry ⟨_, _, by rw [hK]; exact t1.dp ex h1.1, by rw [hK]; exact t2.dp ex h2.1, h1.2, h2.2, q _ _ _ _ h (Res.bl _)⟩
theorem opd_ne {n : Nat} (hr : Room n X.A) (hK : X.K = T.K := by rfl) : OpR X (compareOp .NotEq) (r2D T fNe) := by
  rintro pins s σ H x y v u Q I rx ry ⟨c, B, d1, d2, k, ex, t1, t2, ⟨h1, h2, h⟩, q⟩
  exact op_neD hr.units pins s σ H _ _ v u Q I rx ry ⟨_, _, by rw [hK]; exact t1.dp ex h1.1, by rw [hK]; exact t2.dp ex h2.1, h1.2, h2.2, q _ _ _ _ h (Res.bl _)⟩
theorem isNonD_eq {d : D} (h : isNonD d = true) : d = .non := by cases d <;> first | rfl | cases h
theorem opd_is : OpR X (compareOp .Is) (r2D T (fIsN fun b => b)) := by
  rintro pins s σ H x y v u Q I rx ry ⟨c, B, d1, d2, k, ex, t1, t2, ⟨h1, h⟩, q⟩
  have e := isNonD_eq h1; subst e
  have e2 := t2.non_; subst e2
  exact op_isN pins s σ H _ _ v u Q I rx ry ⟨rfl, by rw [t1.isNon]; exact q _ _ _ _ h (Res.bl _)⟩
theorem opd_isnot : OpR X (compareOp .IsNot) (r2D T (fIsN not)) := by
  rintro pins s σ H x y v u Q I rx ry ⟨c, B, d1, d2, k, ex, t1, t2, ⟨h1, h⟩, q⟩
  have e := isNonD_eq h1; subst e
  have e2 := t2.non_; subst e2
  exact op_notN pins s σ H _ _ v u Q I rx ry ⟨rfl, by rw [t1.isNon]; exact q _ _ _ _ h (Res.bl _)⟩
theorem room65 {n : Nat} {A : Around} (hr : Room n A) : A.units + 65 < cLine := by have := hr.un; omega
theorem opd_in {n : Nat} (hr : Room n X.A) (hK : X.K = T.K := by rfl) : OpR X (compareOp .In) (r2D T (fIn fun b => b)) := by
  rintro pins s σ H x y v u Q I rx ry ⟨c, B, d1, d2, k, ex, t1, t2, h, q⟩
  unfold fIn at h
  split at h
  · rename_i xs
    obtain ⟨h1, h2, h⟩ := h
    refine op_inD (room65 hr) pins s σ H _ _ v u Q I rx ry ⟨_, pys xs, by rw [hK]; exact t1.dp ex h1.1, by rw [hK]; exact t2.dp ex h2.1, h1.2, h2.2, ?_⟩
    rw [pys_any]; exact q _ _ _ _ h (Res.bl _)
  · rename_i xs
    obtain ⟨h1, h2, h⟩ := h
    obtain ⟨as, r1⟩ := Dp.reads I _ x v (by rw [hK]; exact t1.dp ex h1.1) rx
    obtain ⟨bs, r2⟩ := Dp.reads I _ y u (by rw [hK]; exact t2.dp ex h2.1) ry
    refine SeqAt.in_tuple_reads r2 r1 (SeqAt.canLay_of_shaped h2.2) (SeqAt.canLay_of_shaped h1.2) (room_in_shaped h1.2 (room65 hr)) ⟨.bl _, H, I, rfl, ?_⟩
    rw [pys_any]; exact q _ _ _ _ h (Res.bl _)
  · split at h
    · have e1 := t1.str_; have e2 := t2.str_; subst e1 e2
      exact op_in_str pins s σ H _ _ v u Q I rx ry ⟨_, _, rfl, rfl, q _ _ _ _ h (Res.bl _)⟩
    · exact h.elim
  · exact h.elim
theorem opd_notin {n : Nat} (hr : Room n X.A) (hK : X.K = T.K := by rfl) : OpR X (compareOp .NotIn) (r2D T (fIn not)) := by
  rintro pins s σ H x y v u Q I rx ry ⟨c, B, d1, d2, k, ex, t1, t2, h, q⟩
  unfold fIn at h
  split at h
  · rename_i xs
    obtain ⟨h1, h2, h⟩ := h
    refine op_notInD (room65 hr) pins s σ H _ _ v u Q I rx ry ⟨_, pys xs, by rw [hK]; exact t1.dp ex h1.1, by rw [hK]; exact t2.dp ex h2.1, h1.2, h2.2, ?_⟩
    rw [pys_any]; exact q _ _ _ _ h (Res.bl _)
  · rename_i xs
    obtain ⟨h1, h2, h⟩ := h
    obtain ⟨as, r1⟩ := Dp.reads I _ x v (by rw [hK]; exact t1.dp ex h1.1) rx
    obtain ⟨bs, r2⟩ := Dp.reads I _ y u (by rw [hK]; exact t2.dp ex h2.1) ry
    refine SeqAt.notIn_tuple_reads r2 r1 (SeqAt.canLay_of_shaped h2.2) (SeqAt.canLay_of_shaped h1.2) (room_in_shaped h1.2 (room65 hr)) ⟨.bl _, H, I, rfl, ?_⟩
    rw [pys_any]; exact q _ _ _ _ h (Res.bl _)
  · split at h
    · have e1 := t1.str_; have e2 := t2.str_; subst e1 e2
      exact op_notIn_str pins s σ H _ _ v u Q I rx ry ⟨_, _, rfl, rfl, q _ _ _ _ h (Res.bl _)⟩
    · exact h.elim
  · exact h.elim
theorem opd_ix (hK : X.K = T.K := by rfl) : IxR X (r2D T fIx) := by
  rintro value slice pins s σ H x y v u Q I rx ry ⟨c, B, d1, d2, k, ex, t1, t2, h, q⟩ hs
  unfold fIx at h
  split at h
  · have e2 := t2.int_; subst e2
    split at h
    · obtain ⟨a, xs, rfl, h1, r1⟩ := t1.list ex
      obtain ⟨d, hd, h⟩ := h
      obtain ⟨w, hw, n⟩ := r1.at_ hd
      exact ix_list value slice pins s σ H _ _ v u Q I rx ry ⟨a, xs, _, w, rfl, rfl, .inl (.inl h1), hw, q _ _ _ _ h (Res.den n)⟩ hs
    · obtain ⟨a, xs, rfl, h1, r1⟩ := t1.tuple ex
      obtain ⟨d, hd, h⟩ := h
      obtain ⟨w, hw, n⟩ := r1.at_ hd
      exact ix_tup value slice pins s σ H _ _ v u Q I rx ry ⟨a, xs, _, w, rfl, rfl, by rw [hK]; exact h1, hw, q _ _ _ _ h (Res.den n)⟩ hs
    · have e1 := t1.str_; subst e1
      obtain ⟨hz, e, he, h⟩ := h
      exact ix_str value slice pins s σ H _ _ v u Q I rx ry ⟨_, _, e, rfl, rfl, hz, he, q _ _ _ _ h (Res.str _)⟩ hs
    · rename_i ns
      obtain ⟨a, rfl, h1⟩ := t1.scr_ ex
      obtain ⟨n, hn, h⟩ := h
      refine ix_list value slice pins s σ H _ _ v u Q I rx ry ⟨a, _, _, .int n, rfl, rfl, by rw [hK]; exact h1, ?_, q _ _ _ _ h (Res.int _)⟩ hs
      unfold atI at hn ⊢
      rw [List.length_map]
      cases e : ixN _ _ with
      | none => rw [e] at hn; cases hn
      | some j =>
        rw [e] at hn
        show (List.map V.int _)[j]? = some (V.int n)
        have hn : ns[j]? = some n := hn
        rw [List.getElem?_map, hn]; rfl
    · exact h.elim
  · exact h.elim
end

/-! ### slices -/
abbrev RO := XQ → Env → (Option Int → Env → Prop) → Prop
abbrev FS := D → Option Int → Option Int → (D → Tag → Prop) → Prop
def oNo : RO := fun _ ρ Q => Q none ρ
def intOf : D → (Int → Prop) → Prop
  | .int i, q => q i
  | _, _ => False
def oSo (t : RE) : RO := fun x ρ Q => t x ρ fun d _ ρ1 => intOf d fun i => Q (some i) ρ1
def dSlice (f : FS) (ta : RE) (tl th : RO) : RE := fun x ρ Q => ta x ρ fun d _ ρ1 => tl x ρ1 fun l ρ2 => th x ρ2 fun u ρ3 => f d l u fun d g => Q d g ρ3
def liftO (T : Tx) (W : WX) (t : RO) : TO := fun σ H Q' => ∃ c : Dx T, ∃ B ρ x Q, Rel c σ B H ρ ∧ XW c W B x ∧ t x ρ Q ∧
  ∀ l ρ' B' H', Q l ρ' → Ex B B' → ExP c H H' → Rel c σ B' H' ρ' → Q' l H'
def cutD (xs : List D) (lo hi : Option Int) : List D := (xs.drop (HT.sIx xs.length 0 lo)).take (HT.sIx xs.length xs.length hi - HT.sIx xs.length 0 lo)
def fSlice : FS
  | .lst xs, l, u, k => k (.lst (cutD xs l u)) .f
  | .tup xs, l, u, k => k (.tup (cutD xs l u)) .p
  | .str z, l, u, k => z.length ≤ sizeLine ∧ k (.str (cutS z l u)) .p
  | .scr ns, l, u, k => k (.lst (cutD (ns.map D.int) l u)) .f
  | _, _, _, _ => False
def rSD (T : Tx) (f : FS) : V → Option Int → Option Int → Hp → VK → Prop := fun v l u H Q' => ∃ (c : Dx T) (B : Hp) (d : D) (k : D → Tag → Prop), Ex B H ∧ Tm c B H v d ∧ f d l u k ∧ ∀ d g v H', k d g → Res c B H H' v d g → Q' v H'
section
variable {X : Cx} {T : Tx} {W : WX}
theorem lo_no : ∀ σ H Q', liftO T W oNo σ H Q' → tNoPart σ H Q' := by
  rintro σ H Q' ⟨c, B, ρ, x, Q, R, X, h, q⟩
  exact q _ _ B H h Ex.rfl' ExP.rfl' R
theorem lo_so {t : RE} : ∀ σ H Q', liftO T W (oSo t) σ H Q' → tPart (liftE T W t) σ H Q' := by
  rintro σ H Q' ⟨c, B, ρ, x, Q, R, X, h, q⟩
  refine ⟨c, B, ρ, x, _, R, X, h, fun d g ρ1 v B1 H1 h1 e1 k1 R1 t1 => ?_⟩
  cases d <;> first | exact h1.elim | skip
  case int i =>
    have e := (t1.tm R1).int_; subst e
    exact ⟨i, rfl, q _ _ B1 H1 h1 e1 k1 R1⟩
theorem le_slice {f : FS} {ta : RE} {tl th : RO} : ∀ σ H Q', liftE T W (dSlice f ta tl th) σ H Q' → tSl (rSD T f) (liftE T W ta) (liftO T W tl) (liftO T W th) σ H Q' := by
  rintro σ H Q' ⟨c, B, ρ, x, Q, R, X, h, q⟩
  refine ⟨c, B, ρ, x, _, R, X, h, fun d g ρ1 v B1 H1 h1 e1 k1 R1 t1 => ⟨c, B1, ρ1, x, _, R1, X.up e1, h1, fun l ρ2 B2 H2 h2 e2 k2 R2 => ⟨c, B2, ρ2, x, _, R2, X.up (e1.trans e2), h2, fun u ρ3 B3 H3 h3 e3 k3 R3 => ?_⟩⟩⟩
  refine ⟨c, B3, d, _, R3.ex, (t1.tm R1).mono (e2.trans e3) (k2.trans k3), h3, fun d g v H' hq r => ?_⟩
  exact res_to R3 (fun d g ρ' v B' H' hQ e k R' t => q d g ρ' v B' H' hQ ((e1.trans (e2.trans e3)).trans e) ((k1.trans (k2.trans k3)).trans k) R' t) hq r
theorem Dens.cut {c : Dx T} {B : Hp} {vs : List V} {ds : List D} (r : Dens c B vs ds) (l u : Option Int) : Dens c B (cutV vs l u) (cutD ds l u) := by
  unfold cutV cutD
  rw [r.length]
  exact (r.drop _).take _
theorem cut_all {α : Type} {xs : List α} {l u : Nat} (h1 : l = 0) (h2 : u = xs.length) : (xs.drop l).take (u - l) = xs := by
  subst h1 h2; simp
theorem sld (hK : X.K = T.K := by rfl) : L2.SlR X (rSD T fSlice) := by
  rintro pins s σ H x v vl vu lo hi sl Q I rx hs pl pu ⟨c, B, d, k, ex, t, h, q⟩
  unfold fSlice at h
  split at h
  · obtain ⟨a, xs, rfl, h1, r1⟩ := t.list ex
    exact sl_list pins s σ H _ v vl vu lo hi sl Q I rx hs pl pu ⟨a, xs, rfl, .inl (.inl h1), fun p hp => q _ _ _ _ h (Res.newL ex hp (r1.cut _ _))⟩
  · obtain ⟨a, xs, rfl, h1, r1⟩ := t.tuple ex
    refine sl_tupA pins s σ H _ v vl vu lo hi sl Q I rx hs pl pu ⟨a, xs, rfl, by rw [hK]; exact h1, fun e => ?_, fun _ p hp => q _ _ _ _ h (Res.newT ex hp (r1.cut _ _))⟩
    cases t with
    | den t =>
      refine q _ _ _ _ h (Res.den ?_)
      unfold cutD
      rw [r1.length] at e
      rw [cut_all e.1 e.2]; exact t
    | own _ t => cases t
  · have e1 := t.str_; subst e1
    exact sl_str pins s σ H _ v vl vu lo hi sl Q I rx hs pl pu ⟨_, rfl, h.1, q _ _ _ _ h.2 (Res.str _)⟩
  · obtain ⟨a, rfl, h1⟩ := t.scr_ ex
    exact sl_list pins s σ H _ v vl vu lo hi sl Q I rx hs pl pu ⟨a, _, rfl, by rw [hK]; exact h1, fun p hp => q _ _ _ _ h (Res.newL ex hp ((Dens.ints _).cut _ _))⟩
  · exact h.elim
variable {e a : Expr} {re : RE} {rl rh : RO} {lo hi : Option Expr} {pos p2 : Pos}
theorem qo_no : PO X none (liftO T W oNo) := ⟨fun pins s σ H Q I h => po_none.run pins s σ H Q I (lo_no σ H Q h)⟩
theorem qo_so (h : PE X e (liftE T W re)) : PO X (some e) (liftO T W (oSo re)) := ⟨fun pins s σ H Q I hw => (po_some h).run pins s σ H Q I (lo_so σ H Q hw)⟩
theorem qe_slice (he : PE X e (liftE T W re)) (hl : PO X lo (liftO T W rl)) (hu : PO X hi (liftO T W rh)) (hK : X.K = T.K := by rfl) : PE X (.Subscript e (.Slice lo hi none p2) pos) (liftE T W (dSlice fSlice re rl rh)) := (pe_slice (sld hK) he hl hu).imp le_slice
end
end Dc
set_option maxHeartbeats 1000000
/-! Data calculus 10: dicts, what one owns is written, built-in functions. -/
namespace Dc
open PySem L2 PyProof.Rows PySem.W

/-! ### dicts -/
def keyD : L2.Key → D
  | .inl i => .int i
  | .inr x => .str x
def toKey : D → Option L2.Key
  | .int i => some (.inl i)
  | .str x => some (.inr x)
  | _ => none
def valD (kvs : List (L2.Key × D)) (k : L2.Key) : Option D := (kvs.find? fun kv => decide (kv.1 = k)).map (·.2)
def putD (kvs : List (L2.Key × D)) (k : L2.Key) (v : D) : List (L2.Key × D) :=
  if (kvs.any fun kv => decide (kv.1 = k)) = true then kvs.map (fun kv => if kv.1 = k then (kv.1, v) else kv) else kvs ++ [(k, v)]
def dropD (kvs : List (L2.Key × D)) (k : L2.Key) : List (L2.Key × D) := kvs.filter fun kv => decide (kv.1 ≠ k)
/-- keys and values in a row -/
def keysD (kvs : List (L2.Key × D)) : List D := kvs.map fun kv => keyD kv.1
section
variable {T : Tx} {c : Dx T} {B H : Hp}
theorem DenK.val {xs : List (L2.Key × V)} {ds : List (L2.Key × D)} (r : DenK c B xs ds) (k : L2.Key) : (valV xs k = none ∧ valD ds k = none) ∨ ∃ v d, valV xs k = some v ∧ valD ds k = some d ∧ Den c B v d := by
  induction xs generalizing ds with
  | nil => cases r; exact .inl ⟨rfl, rfl⟩
  | cons p xs ih =>
    cases r with
    | @cons key v d _ ds h r =>
      by_cases e : key = k
      · exact .inr ⟨v, d, by simp [valV, e], by simp [valD, e], h⟩
      · rcases ih r with ⟨h1, h2⟩ | ⟨v', d', h1, h2, n⟩
        · exact .inl ⟨by simp [valV, e] at h1 ⊢; exact h1, by simp [valD, e] at h2 ⊢; exact h2⟩
        · exact .inr ⟨v', d', by simp [valV, e] at h1 ⊢; exact h1, by simp [valD, e] at h2 ⊢; exact h2, n⟩
theorem DenK.any_ {xs : List (L2.Key × V)} {ds : List (L2.Key × D)} (r : DenK c B xs ds) (k : L2.Key) : (xs.any fun kv => decide (kv.1 = k)) = ds.any fun kv => decide (kv.1 = k) := by
  induction xs generalizing ds with
  | nil => cases r; rfl
  | cons p xs ih => cases r with | cons h r => simp [ih r]
theorem DenK.mapSet {xs : List (L2.Key × V)} {ds : List (L2.Key × D)} (r : DenK c B xs ds) (k : L2.Key) {v : V} {d : D} (n : Den c B v d) :
    DenK c B (xs.map fun kv => if kv.1 = k then (kv.1, v) else kv) (ds.map fun kv => if kv.1 = k then (kv.1, d) else kv) := by
  induction xs generalizing ds with
  | nil => cases r; exact .nil
  | cons p xs ih =>
    cases r with
    | @cons key v' d' _ ds h r =>
      by_cases e : key = k
      · simp only [List.map_cons, e, if_true]; exact .cons n (ih r)
      · simp only [List.map_cons, e, if_false]; exact .cons h (ih r)
theorem DenK.app {xs ys : List (L2.Key × V)} {ds es : List (L2.Key × D)} (r : DenK c B xs ds) (g : DenK c B ys es) : DenK c B (xs ++ ys) (ds ++ es) := by
  induction xs generalizing ds with
  | nil => cases r; exact g
  | cons p xs ih => cases r with | cons h r => exact .cons h (ih r)
theorem DenK.put {xs : List (L2.Key × V)} {ds : List (L2.Key × D)} (r : DenK c B xs ds) (k : L2.Key) {v : V} {d : D} (n : Den c B v d) : DenK c B (putK xs k v) (putD ds k d) := by
  unfold putK putD
  rw [r.any_ k]
  split
  · exact r.mapSet k n
  · exact r.app (.cons n .nil)
theorem DenK.dropped {xs : List (L2.Key × V)} {ds : List (L2.Key × D)} (r : DenK c B xs ds) (k : L2.Key) : DenK c B (dropK xs k) (dropD ds k) := by
  unfold dropK dropD
  induction xs generalizing ds with
  | nil => cases r; exact .nil
  | cons p xs ih =>
    cases r with
    | @cons key v' d' _ ds h r =>
      by_cases e : key = k
      · simp [e]; simpa using ih r
      · simp [e]; exact .cons h (by simpa using ih r)
theorem Den.key (k : L2.Key) : Den c B (kV k) (keyD k) := by
  cases k with
  | inl i => exact .int i
  | inr x => exact .str x
theorem DenK.keys {xs : List (L2.Key × V)} {ds : List (L2.Key × D)} (r : DenK c B xs ds) : Dens c B (xs.map fun kv => kV kv.1) (keysD ds) := by
  induction xs generalizing ds with
  | nil => cases r; exact .nil
  | cons p xs ih => cases r with | cons h r => exact .cons (Den.key _) (ih r)
theorem Tm.key {v : V} {d : D} {k : L2.Key} (h : Tm c B H v d) (e : toKey d = some k) : v = kV k := by
  cases d <;> first | cases e | skip
  · exact h.int_
  · exact h.str_
theorem Tm.dictR {v : V} {ds : List (L2.Key × D)} (h : Tm c B H v (.dic ds)) (ex : Ex B H) : ∃ a xs, v = .ref a ∧ Rd H a (.dK xs) ∧ DenK c B xs ds := by
  obtain ⟨a, xs, e, h, r⟩ := h.dict ex
  exact ⟨a, xs, e, .inl h, r⟩
end
theorem tail_any {prog : Program} {w : World} {A : Around} {E : Value → Shared → Prop} {s : Shared} {value slice : Expr} {o i : Value} {tn id : String} {Q : Value → Shared → Prop} (hT : s.TypeIs o tn)
    (hl : typeLookup (.type tn) "__getitem__" = pure (some (.builtin id))) (h : wpAny (model prog w) A (getItem o i) Q E s) (hs : subscripted slice false o i = operate [o, i] (getItem o i)) : wpAny (model prog w) A (subscriptTail value slice o i) Q E s := by
  unfold subscriptTail
  refine wpAny_bind ?_
  rw [getitemInPython_of_ne hT.not_modules]
  refine wpAny_bind (wpAny_specialOf hT hl ?_)
  have go : wpAny (model prog w) A (subscripted slice false o i) (fun r s₃ => wpAny (model prog w) A (letTemporaryGo value o r >>= fun _ => pure r) Q E s₃) E s := by
    rw [hs]
    exact wpAny_operating (wpAny_mono h (fun r s₃ h₃ => wpAny_bind (wpAny_letTemporaryGo (wpAny_pure h₃))) fun _ _ x => x)
  first
    | exact wpAny_bind go
    | exact wpAny_pure (wpAny_bind go)
    | exact wpAny_bind (wpAny_pure (wpAny_bind go))
def fIxA : F2 := fun a b k => match a with
  | .dic kvs => ∃ key d, toKey b = some key ∧ valD kvs key = some d ∧ k d .p
  | a => fIx a b k
def fInA (g : Bool → Bool) : F2 := fun a b k => match b with
  | .dic kvs => ∃ key, toKey a = some key ∧ k (.bl (g (valD kvs key).isSome)) .p
  | b => fIn g a b k
section
variable {X : Cx} {T : Tx}
theorem opd_ixA {n : Nat} (hr : Room n X.A) (hK : X.K = T.K := by rfl) : IxR X (r2D T fIxA) := by
  rintro value slice pins s σ H x y v u Q I rx ry ⟨c, B, d1, d2, k, ex, t1, t2, h, q⟩ hs
  unfold fIxA at h
  split at h
  · obtain ⟨key, d, ek, hv, h⟩ := h
    obtain ⟨a, xs, rfl, h1, r1⟩ := t1.dictR ex
    have ey := t2.key ek; subst ey
    rcases r1.val key with ⟨_, h2⟩ | ⟨w, d', h2, h3, n⟩
    · rw [hv] at h2; cases h2
    · rw [hv] at h3; cases h3
      obtain rfl : v = Value.ref a := rx
      have g : DGet H a (kV key) (some w) := .inl ⟨xs, key, h1, rfl, h2.symm⟩
      exact tail_any (dict_typeIs I g) PySem.F.slot_dict_getitem.lookup (d_getItem (by have := hr.units; omega) I g ry fun w' s3 I3 rw' => ⟨w, H, I3, rw', q _ _ _ _ h (Res.den n)⟩) hs
  · exact opd_ix hK value slice pins s σ H x y v u Q I rx ry ⟨c, B, d1, d2, k, ex, t1, t2, h, q⟩ hs
theorem opd_inA {n : Nat} (hr : Room n X.A) (hK : X.K = T.K := by rfl) : OpR X (compareOp .In) (r2D T (fInA fun b => b)) := by
  rintro pins s σ H x y v u Q I rx ry ⟨c, B, d1, d2, k, ex, t1, t2, h, q⟩
  unfold fInA at h
  split at h
  · rename_i kvs
    obtain ⟨key, ek, h⟩ := h
    obtain ⟨a, xs, rfl, h1, r1⟩ := t2.dictR ex
    have ey := t1.key ek; subst ey
    obtain rfl : u = Value.ref a := ry
    have e : (valV xs key).isSome = (valD kvs key).isSome := by
      rcases r1.val key with ⟨e1, e2⟩ | ⟨_, _, e1, e2, _⟩ <;> rw [e1, e2] <;> rfl
    exact d_in (by have := hr.units; omega) I (.inl ⟨xs, key, h1, rfl, rfl⟩) rx fun s3 I3 => ⟨.bl _, H, I3, rfl, by rw [e]; exact q _ _ _ _ h (Res.bl _)⟩
  · exact opd_in hr hK pins s σ H x y v u Q I rx ry ⟨c, B, d1, d2, k, ex, t1, t2, h, q⟩
theorem opd_notinA {n : Nat} (hr : Room n X.A) (hK : X.K = T.K := by rfl) : OpR X (compareOp .NotIn) (r2D T (fInA not)) := by
  rintro pins s σ H x y v u Q I rx ry ⟨c, B, d1, d2, k, ex, t1, t2, h, q⟩
  unfold fInA at h
  split at h
  · rename_i kvs
    obtain ⟨key, ek, h⟩ := h
    obtain ⟨a, xs, rfl, h1, r1⟩ := t2.dictR ex
    have ey := t1.key ek; subst ey
    obtain rfl : u = Value.ref a := ry
    have e : (valV xs key).isSome = (valD kvs key).isSome := by
      rcases r1.val key with ⟨e1, e2⟩ | ⟨_, _, e1, e2, _⟩ <;> rw [e1, e2] <;> rfl
    exact d_notIn (by have := hr.units; omega) I (.inl ⟨xs, key, h1, rfl, rfl⟩) rx fun s3 I3 => ⟨.bl _, H, I3, rfl, by rw [e]; exact q _ _ _ _ h (Res.bl _)⟩
  · exact opd_notin hr hK pins s σ H x y v u Q I rx ry ⟨c, B, d1, d2, k, ex, t1, t2, h, q⟩
end

/-! ### what one owns is written -/
section
variable {T : Tx} {c : Dx T} {σ : L2.St} {B H : Hp} {ρ : Env}
theorem Rel.putOwn (R : Rel c σ B H ρ) {i : Nat} {a : Addr} {d d' : D} {o : HO} (h1 : σ[i]? = some (some (V.ref a))) (h2 : ρ[i]? = some (Sl.own d)) (h : OwnAt c B (upd H a o) a d') : Rel c σ B (upd H a o) (ρ.set i (.own d')) := by
  obtain ⟨m, ow⟩ := R.ownB h1 h2
  have hi : i < ρ.length := (List.getElem?_eq_some_iff.mp h2).1
  refine ⟨fun b u hb => ?_, fun b hb => ?_, fun b u hn hb => ?_, fun b hb => ?_, by simp [R.len], fun j u s g1 g2 => ?_, fun j k b x y a1 a2 a3 a4 => ?_⟩
  · rw [upd_ne (ne_of_none hb m.b)]; exact R.ex b u hb
  · obtain ⟨z1, x, y, w, hx, r⟩ := R.pail b hb
    exact ⟨z1, x, y, w, by rw [upd_ne (fun e => m.p (by rw [← e]; exact hb))]; exact hx, r⟩
  · rw [upd_ne (ne_of_none hb m.h)]; exact R.ent b u hn hb
  · obtain ⟨⟨u, hu⟩, z2, z3⟩ := R.fb b hb
    exact ⟨⟨u, by rw [upd_ne (fun e => m.f (by rw [← e]; exact hb))]; exact hu⟩, z2, z3⟩
  · by_cases ji : i = j
    · subst ji
      rw [List.getElem?_set_self hi] at g2
      rw [h1] at g1; cases g1; cases g2
      exact .own m h
    · rw [List.getElem?_set_ne ji] at g2
      have z := R.sl j u s g1 g2
      cases z with
      | no => exact .no
      | sh z => exact .sh z
      | @own p e m' z =>
        have ne : p ≠ a := fun w => ji (R.dj i j a d e h1 h2 (by rw [← w]; exact g1) g2)
        exact .own m' (z.mono Ex.rfl' fun u hu => by rw [upd_ne ne]; exact hu)
  · have back : ∀ {j : Nat} {x : D}, (ρ.set i (.own d'))[j]? = some (Sl.own x) → ∃ x', ρ[j]? = some (Sl.own x') := fun {j x} w => by
      by_cases ji : i = j
      · subst ji; exact ⟨d, h2⟩
      · rw [List.getElem?_set_ne ji] at w; exact ⟨x, w⟩
    obtain ⟨x', b1⟩ := back a2
    obtain ⟨y', b2⟩ := back a4
    exact R.dj j k b x' y' a1 b1 a3 b2
end
/-- the owned thing in the i-th slot -/
def ownIn (ρ : Env) (i : Nat) (q : D → Prop) : Prop := match ρ[i]? with
  | some (.own d) => q d
  | _ => False
theorem ownIn_at {T : Tx} {c : Dx T} {σ : L2.St} {B H : Hp} {ρ : Env} {i : Nat} {q : D → Prop} (R : Rel c σ B H ρ) (h : ownIn ρ i q) : ∃ a d, σ[i]? = some (some (V.ref a)) ∧ ρ[i]? = some (Sl.own d) ∧ q d ∧ OwnAt c B H a d ∧ Mine c B a := by
  unfold ownIn at h
  split at h
  · rename_i d e
    have hi : i < σ.length := by rw [R.len]; exact (List.getElem?_eq_some_iff.mp e).1
    obtain ⟨o, ho⟩ : ∃ o, σ[i]? = some o := ⟨σ[i], by simp [hi]⟩
    have s := R.sl i o _ ho e
    cases s with
    | @own a _ m s => exact ⟨a, d, ho, e, h, s, m⟩
  · exact h.elim
/-- a method that writes its receiver: what becomes of it, what comes back -/
abbrev FW := D → List D → (D → D → Prop) → Prop
def rWD (T : Tx) (f : FW) : V → List V → Hp → VK → Prop := fun v vs H Q' => ∃ (c : Dx T) (B : Hp) (a : Addr) (d : D) (ds : List D) (k : D → D → Prop), v = .ref a ∧ Ex B H ∧ OwnAt c B H a d ∧ Dens c B vs ds ∧ f d ds k ∧
  ∀ d' r v o, k d' r → OwnAt c B (upd H a o) a d' → Den c B v r → Q' v (upd H a o)
def isLst : D → Prop
  | .lst _ => True
  | _ => False
/-- as a statement; as name = o.m(..) -/
def sWr (i : Nat) (f : FW) (ta : RA) : RS := fun k ρ => ownIn ρ i fun d => isLst d ∧ ta k.ex ρ fun ds ρ1 => ownIn ρ1 i fun d => f d ds fun d' r => k.nx (ρ1.set i (.own d'))
def sWrSet (j i : Nat) (f : FW) (ta : RA) : RS := fun k ρ => ownIn ρ i fun d => isLst d ∧ ta k.ex ρ fun ds ρ1 => ownIn ρ1 i fun d => f d ds fun d' r => k.nx ((ρ1.set i (.own d')).set j (.sh r))
section
variable {T : Tx} {W : WX} {f : FW} {ta : RA}
theorem isLst_ty {c : Dx T} {B H : Hp} {a : Addr} {d : D} (h : OwnAt c B H a d) (l : isLst d) : tyV T.K "list" (.ref a) H := by
  cases h with
  | lst h r => exact .inl ⟨rfl, _, .inl (.inl h)⟩
  | dic h r => exact l.elim
theorem wr_core {i : Nat} {c : Dx T} {σ : L2.St} {B H : Hp} {ρ : Env} {x : XQ} {Q : D → Env → Prop} {Q' : VK} (R : Rel c σ B H ρ) (X : XW c W B x) (h : ownIn ρ i fun d => isLst d ∧ ta x ρ fun ds ρ1 => ownIn ρ1 i fun d => f d ds fun d' r => Q r (ρ1.set i (.own d')))
    (q : ∀ r v ρ' B' H', Q r ρ' → Ex B B' → Rel c σ B' H' ρ' → Den c B' v r → Q' v H') : tBM T.K "list" (rWD T f) (tVar i) (liftA T W ta) σ H Q' := by
  obtain ⟨a, d, h1, h2, ⟨hl, h⟩, ow, m⟩ := ownIn_at R h
  refine ⟨.ref a, h1, isLst_ty ow hl, c, B, ρ, x, _, R, X, h, fun ds ρ1 vs B1 H1 g1 e1 k1 R1 t1 => ?_⟩
  obtain ⟨a', d1, g2, g3, g4, ow1, m1⟩ := ownIn_at R1 g1
  rw [h1] at g2
  injection g2 with g2; injection g2 with g2; injection g2 with g2
  subst g2
  exact ⟨c, B1, a, d1, ds, _, rfl, R1.ex, ow1, t1, g4, fun d' r v o hq ow2 n => q r v _ B1 _ hq e1 (R1.putOwn h1 g3 ow2) n⟩
theorem ls_wr {i : Nat} : ∀ D σ H, liftS T W (sWr i f ta) D σ H → tDrop (tBM T.K "list" (rWD T f) (tVar i) (liftA T W ta)) D σ H := by
  rintro D σ H ⟨c, B, ρ, k, R, X, h, n, r, bk, ct⟩
  exact wr_core (Q := fun _ => k.nx) R X h fun r v ρ' B' H' hq e R' _ => n ρ' σ B' H' hq e R'
theorem ls_wrSet {i j : Nat} : ∀ D σ H, liftS T W (sWrSet j i f ta) D σ H → tAsg (tBM T.K "list" (rWD T f) (tVar i) (liftA T W ta)) (gName j) D σ H := by
  rintro D σ H ⟨c, B, ρ, k, R, X, h, n, r, bk, ct⟩
  exact wr_core (Q := fun r ρ' => k.nx (ρ'.set j (.sh r))) R X h fun r v ρ' B' H' hq e R' d => n _ _ B' H' hq e (R'.setSh j d)
end
def wApp : FW
  | .lst xs, [d], k => xs.length < sizeLine ∧ k (.lst (xs ++ [d])) .non
  | _, _, _ => False
def wPop : FW
  | .lst xs, [], k => ∃ d, xs[xs.length - 1]? = some d ∧ k (.lst xs.dropLast) d
  | .lst xs, [.int i], k => -(2 ^ 63) ≤ i ∧ i < 2 ^ 63 ∧ ∃ j d, seqIndex? i xs.length = some j ∧ xs[j]? = some d ∧ k (.lst (xs.eraseIdx j)) d
  | _, _, _ => False
section
variable {X : Cx} {T : Tx} {W : WX}
theorem mtd_app : MtR X "list.append" (rWD T wApp) := by
  rintro pins s σ H x xs v us Q I rx rxs ⟨c, B, a, d, ds, k, rfl, ex, ow, r, h, q⟩
  unfold wApp at h
  split at h
  · cases ow with
    | lst ha ra =>
      cases r with
      | cons n rr =>
        cases rr
        exact mt_append pins s σ H _ _ v us Q I rx rxs ⟨a, _, _, rfl, rfl, ha, by rw [ra.length]; exact h.1, q _ _ _ _ h.2 (.lst upd_same (ra.append (.cons n .nil))) .non⟩
  · exact h.elim
theorem mtd_pop : MtR X "list.pop" (rWD T wPop) := by
  rintro pins s σ H x xs v us Q I rx rxs ⟨c, B, a, d, ds, k, rfl, ex, ow, r, h, q⟩
  unfold wPop at h
  split at h
  · cases ow with
    | lst ha ra =>
      cases r
      obtain ⟨d, hd, h⟩ := h
      obtain ⟨w, hw, n⟩ := ra.get hd
      exact mt_pop pins s σ H _ _ v us Q I rx rxs ⟨a, _, w, rfl, rfl, ha, by rw [ra.length]; exact hw, q _ _ _ _ h (.lst upd_same ra.dropLast) n⟩
  · cases ow with
    | lst ha ra =>
      cases r with
      | cons n rr =>
        cases rr; cases n
        obtain ⟨h1, h2, j, d, hj, hd, h⟩ := h
        obtain ⟨w, hw, n⟩ := ra.get hd
        exact mt_popAt pins s σ H _ _ v us Q I rx rxs ⟨a, _, _, j, w, rfl, rfl, ha, h1, h2, by rw [ra.length]; exact hj, hw, q _ _ _ _ h (.lst upd_same (ra.eraseIdx j)) n⟩
  · exact h.elim
/-! o[k] = v, o our own -/
def putAt : D → D → D → (D → Prop) → Prop
  | .lst xs, .int i, d, k => ∃ j, ixN xs.length i = some j ∧ k (.lst (xs.set j d))
  | .dic kvs, b, d, k => ∃ key, toKey b = some key ∧ kvs.length < sizeLine ∧ k (.dic (putD kvs key d))
  | _, _, _, _ => False
def rPutD (T : Tx) : V → V → V → Hp → (Hp → Prop) → Prop := fun o i v H Q' => ∃ (c : Dx T) (B : Hp) (a : Addr) (d d2 d3 : D) (k : D → Prop), o = .ref a ∧ Ex B H ∧ OwnAt c B H a d ∧ Tm c B H i d2 ∧ Den c B v d3 ∧ putAt d d2 d3 k ∧
  ∀ d' u, k d' → OwnAt c B (upd H a u) a d' → Q' (upd H a u)
theorem psetd {n : Nat} (hr : Room n X.A) : PSet X (rPutD T) := by
  rintro pins s σ H o i v ov iv u Q I ro ri rv ⟨c, B, a, d, d2, d3, k, rfl, ex, ow, t2, n3, h, q⟩
  unfold putAt at h
  split at h
  · cases ow with
    | lst ha ra =>
      have e := t2.int_; subst e
      obtain ⟨j, hj, h⟩ := h
      exact set_list pins s σ H _ _ v ov iv u Q I ro ri rv ⟨a, _, _, j, rfl, rfl, ha, by rw [ra.length]; exact hj, q _ _ h (.lst upd_same (ra.set j n3))⟩
  · cases ow with
    | dic ha ra =>
      obtain ⟨key, ek, hl, h⟩ := h
      have e := t2.key ek; subst e
      obtain rfl : ov = Value.ref a := ro
      exact d_setItem (by have := hr.units; omega) I (.inl ⟨_, key, ha, rfl, by
        have : ∀ {xs : List (L2.Key × V)} {ds : List (L2.Key × D)}, DenK c B xs ds → xs.length = ds.length := fun r => r.length
        rw [this ra]; exact hl, rfl⟩) ri rv fun s3 I3 => ⟨_, I3, q _ _ h (.dic upd_same (ra.put key n3))⟩
  · exact h.elim
def sPut (i : Nat) (te ti : RE) : RS := fun k ρ => te k.ex ρ fun d g ρ1 => ownIn (leak d g ρ1) i fun _ => ti k.ex (leak d g ρ1) fun b _ ρ2 => ownIn ρ2 i fun o => putAt o b d fun o' => k.nx (ρ2.set i (.own o'))
theorem ls_put {i : Nat} {te ti : RE} : ∀ D σ H, liftS T W (sPut i te ti) D σ H → tAsg (liftE T W te) (gSub (tVar i) (liftE T W ti) (rPutD T)) D σ H := by
  rintro D σ H ⟨c, B, ρ, k, R, X, h, n, r, bk, ct⟩
  refine ⟨c, B, ρ, _, _, R, X, h, fun d g ρ1 v B1 H1 h1 e1 k1 R1 t1 => ?_⟩
  obtain ⟨B2, e2, R2, n2⟩ := leak_ok R1 t1
  obtain ⟨a, d0, s1, s2, h1, ow, m⟩ := ownIn_at R2 h1
  refine ⟨.ref a, s1, c, B2, _, _, _, R2, (X.up e1).up e2, h1, fun b gb ρ3 w B3 H3 h3 e3 k3 R3 t3 => ?_⟩
  obtain ⟨a', d1, s3, s4, h3, ow3, m3⟩ := ownIn_at R3 h3
  rw [s1] at s3
  injection s3 with s3; injection s3 with s3; injection s3 with s3
  subst s3
  exact ⟨c, B3, a, d1, b, d, _, rfl, R3.ex, ow3, t3.tm R3, n2.mono e3, h3, fun d' u hq ow4 => n _ σ B3 _ hq (e1.trans (e2.trans e3)) (R3.putOwn s1 s4 ow4)⟩
end
/-! the rules -/
section
variable {X : Cx} {T : Tx} {W : WX} {e o : Expr} {es : List Expr} {re ro : RE} {rs : RA} {pos apos cpos : Pos}
theorem qe_dnew : PE X (.Dict [] [] pos) (liftE T W fun _ ρ Q => Q (.dic []) .f ρ) := pe_dnewK.imp fun σ H Q' ⟨c, B, ρ, x, Q, R, X, h, q⟩ p hp =>
  res_to R q h (Res.newD R.ex hp .nil)
theorem qs_wr (i : Nat) {x : Str} {np : Pos} {name : Str} {id : String} {f : FW} (slot : Slot "list" name id) (hty : typeOf (.builtin id) = pure (.type "method_descriptor")) (hm : MtR X id (rWD T f)) (ha : PA X (e :: es) (liftA T W rs)) (hK : X.K = T.K := by rfl) (hN : X.N[i]? = some x := by rfl)
    (hv : Vis X.env.scope x := by first | exact Or.inl rfl | exact Or.inr (Or.inl rfl) | exact Or.inr (Or.inr rfl)) (hd : (x == ("__debug__" : Str)) = false := by decide) (hcd : (x == ("__classdict__" : Str)) = false := by decide)
    (hbase : attributeBase (.Name x np) name X.env (eval (.Name x np) X.env) = eval (.Name x np) X.env := by rfl)
    (hfew : ((backTo cpos (starEach (e :: es) X.env)).all (fun x => !x.1) && (backToKw cpos (keywordEach [] X.env)).all (fun x => x.1.isSome)
      && decide ((e :: es).length + ([] : List Keyword).length + (if ([] : List Keyword).isEmpty then 0 else 1) < 30)) = true := by rfl)
    (hline : (apos.endLine == cpos.line) = true := by rfl) (hs : starEach (e :: es) X.env = (false, eval e X.env) :: starEach es X.env := by rfl) (hplain : (backTo cpos (starEach es X.env)).any (·.1) = false := by rfl)
    (hsw : swapsWith (.Call (.Attribute (.Name x np) name apos) (e :: es) [] cpos) none pos.line X.env = pure false := by rfl) :
    PS X (.Expr (.Call (.Attribute (.Name x np) name apos) (e :: es) [] cpos) pos) (liftS T W (sWr i f rs)) :=
  (ps_expr (pe_bm PySem.F.plainAttrs_list slot hty hm (pe_var hN hv hd hcd) ha hbase hfew hline hs hplain) hsw).imp (by rw [hK]; exact ls_wr)
theorem qs_put (i : Nat) {x : Str} {np tp : Pos} {b : Expr} {te ti : RE} {n : Nat} (hr : Room n X.A) (he : PE X e (liftE T W te)) (hi : PE X b (liftE T W ti)) (hN : X.N[i]? = some x := by rfl)
    (hv : Vis X.env.scope x := by first | exact Or.inl rfl | exact Or.inr (Or.inl rfl) | exact Or.inr (Or.inr rfl)) (hd : (x == ("__debug__" : Str)) = false := by decide) (hcd : (x == ("__classdict__" : Str)) = false := by decide)
    (ha : ∀ v, assign (.Subscript (.Name x np) b tp) X.env v = (do
      let ov ← holding [v] (eval (.Name x np) X.env)
      let iv ← holding [v, ov] (eval b X.env)
      standAt tp
      holding [v, ov, iv] (setItem ov iv v)
      release [v, ov, iv] []) := by intro _; rfl)
    (hs : swapsWithSole [.Subscript (.Name x np) b tp] e pos.line X.env = pure false := by rfl) (hw : swappedStores [.Subscript (.Name x np) b tp] e X.env = pure none := by rfl)
    (h1 : (assignEach [.Subscript (.Name x np) b tp] X.env).map (·.2) = [assign (.Subscript (.Name x np) b tp) X.env] := by rfl) : PS X (.Assign [.Subscript (.Name x np) b tp] e pos) (liftS T W (sPut i te ti)) :=
  (ps_asg he (pg_sub (pe_var hN hv hd hcd) hi (psetd hr) ha) hs hw h1).imp ls_put
end
end Dc
set_option maxHeartbeats 1000000
/-! Data calculus 11: built-in functions, methods of texts. -/
namespace Dc
open PySem L2 PyProof.Rows PySem.W

theorem Tms.len {T : Tx} {c : Dx T} {B H : Hp} : ∀ {vs : List V} {ds : List D}, Tms c B H vs ds → vs.length = ds.length
  | _, _, .nil => rfl
  | _, _, .cons _ r => by simp [Tms.len r]
theorem Dens.intsOf {T : Tx} {c : Dx T} {B : Hp} {xs : List V} {ds : List D} {ns : List Int} (r : Dens c B xs ds) (e : ds = ns.map D.int) : xs = ns.map V.int := by subst e; exact r.toInts

/-! ### what is asked, what comes back -/
def fLen : FN
  | [.str z], k => z.length ≤ sizeLine ∧ k (.int z.length) .p
  | [.lst xs], k => k (.int xs.length) .p
  | [.tup xs], k => k (.int xs.length) .p
  | [.dic xs], k => k (.int xs.length) .p
  | [.scr xs], k => k (.int xs.length) .p
  | _, _ => False
def fSum : FN
  | [.lst ds], k => ∃ ns : List Int, ds = ns.map D.int ∧ k (.int ns.sum) .p
  | _, _ => False
def fAll : FN
  | [.lst ds], k => ∃ bs : List Bool, ds = bs.map D.bl ∧ k (.bl (bs.all id)) .p
  | _, _ => False
def fAny : FN
  | [.lst ds], k => ∃ bs : List Bool, ds = bs.map D.bl ∧ k (.bl (bs.any id)) .p
  | _, _ => False
/-- the greatest, the least one of a list -/
def topI : List Int → Int
  | [] => 0
  | [a] => a
  | a :: r => max a (topI r)
def lowI : List Int → Int
  | [] => 0
  | [a] => a
  | a :: r => min a (lowI r)
def fMax : FN
  | [.int i, .int j], k => k (.int (max i j)) .p
  | [.lst ds], k => ∃ ns : List Int, ds = ns.map D.int ∧ ns ≠ [] ∧ k (.int (topI ns)) .p
  | _, _ => False
def fMin : FN
  | [.int i, .int j], k => k (.int (min i j)) .p
  | [.lst ds], k => ∃ ns : List Int, ds = ns.map D.int ∧ ns ≠ [] ∧ k (.int (lowI ns)) .p
  | _, _ => False
def fInt : FN
  | [.int i], k => k (.int i) .p
  | [.bl b], k => k (.int (if b = true then 1 else 0)) .p
  | [.str a], k => ∃ n, PySem.intText? a = some n ∧ a.length ≤ 640 ∧ k (.int n) .p
  | _, _ => False
def fStr : FN
  | [.int i], k => i.natAbs.log2 < 1920 ∧ k (.str (toString i)) .p
  | [.str a], k => k (.str a) .p
  | _, _ => False
def fBool : FN
  | [.int i], k => k (.bl (i != 0)) .p
  | [.bl b], k => k (.bl b) .p
  | [.lst xs], k => k (.bl (!xs.isEmpty)) .p
  | _, _ => False
def fAbs : FN
  | [.int i], k => k (.int (if i < 0 then -i else i)) .p
  | _, _ => False
def fDivmod : FN
  | [.int i, .int j], k => 0 < j ∧ Builtin.divisionGoesByPylong i j = false ∧ k (.tup [.int (i / j), .int (i % j)]) .p
  | _, _ => False
def fList : FN
  | [.lst xs], k => k (.lst xs) .f
  | [.tup xs], k => k (.lst xs) .f
  | [.dic kvs], k => k (.lst (keysD kvs)) .f
  | _, _ => False
def fTuple : FN
  | [.lst xs], k => k (.tup xs) .p
  | [.tup xs], k => k (.tup xs) .p
  | _, _ => False
/-- ints in order -/
def insI (a : Int) : List Int → List Int
  | [] => [a]
  | b :: r => if a ≤ b then a :: b :: r else b :: insI a r
def sortI : List Int → List Int
  | [] => []
  | a :: r => insI a (sortI r)
def fSorted : FN
  | [.lst ds], k => ∃ ns : List Int, ds = ns.map D.int ∧ k (.lst ((sortI ns).map D.int)) .f
  | _, _ => False
/-- python's own text of plain data -/
def shD (d : D) : Str := (py d).shown
def okSh (d : D) : Prop := flat d = true ∧ (py d).showable = true ∧ (shD d).length ≤ sizeLine ∧ (py d).depth ≤ 60
def fRepr : FN
  | [d], k => okSh d ∧ k (.str (shD d)) .p
  | _, _ => False

theorem insI_perm (a : Int) : ∀ l, (insI a l).Perm (a :: l)
  | [] => .refl _
  | b :: r => by
    unfold insI
    split
    · exact .refl _
    · exact ((insI_perm a r).cons b).trans (.swap a b r)
theorem sortI_perm : ∀ l, (sortI l).Perm l
  | [] => .refl _
  | a :: r => (insI_perm a _).trans ((sortI_perm r).cons a)
theorem insI_sorted (a : Int) : ∀ {l : List Int}, l.Pairwise (· ≤ ·) → (insI a l).Pairwise (· ≤ ·)
  | [], _ => List.pairwise_singleton _ _
  | b :: r, h => by
    unfold insI
    split
    · rename_i hab
      rw [List.pairwise_cons] at h ⊢
      exact ⟨fun x hx => by
        rcases List.mem_cons.mp hx with e | hx
        · rw [e]; exact hab
        · exact Int.le_trans hab (h.1 x hx), List.pairwise_cons.mpr h⟩
    · rename_i hab
      rw [List.pairwise_cons] at h ⊢
      exact ⟨fun x hx => by
        rcases List.mem_cons.mp ((insI_perm a r).mem_iff.mp hx) with e | hx
        · rw [e]; omega
        · exact h.1 x hx, insI_sorted a h.2⟩
theorem sortI_sorted : ∀ l, (sortI l).Pairwise (· ≤ ·)
  | [] => .nil
  | a :: r => insI_sorted a (sortI_sorted r)
theorem sorted_unique : ∀ {a b : List Int}, a.Pairwise (· ≤ ·) → b.Pairwise (· ≤ ·) → a.Perm b → a = b
  | [], b, _, _, p => (List.nil_perm.mp p).symm
  | x :: a, [], _, _, p => (List.perm_nil.mp p)
  | x :: a, y :: b, ha, hb, p => by
    rw [List.pairwise_cons] at ha hb
    have e : x = y := by
      have h1 : x ∈ y :: b := p.mem_iff.mp List.mem_cons_self
      have h2 : y ∈ x :: a := p.mem_iff.mpr List.mem_cons_self
      rcases List.mem_cons.mp h1 with h1 | h1
      · exact h1
      · rcases List.mem_cons.mp h2 with h2 | h2
        · exact h2.symm
        · have := hb.1 x h1; have := ha.1 y h2; omega
    subst e
    rw [sorted_unique ha.2 hb.2 (List.Perm.cons_inv p)]
theorem topI_mem : ∀ {l : List Int}, l ≠ [] → topI l ∈ l ∧ ∀ x ∈ l, x ≤ topI l
  | [], h => (h rfl).elim
  | [a], _ => by simp [topI]
  | a :: b :: r, _ => by
    obtain ⟨h1, h2⟩ := topI_mem (l := b :: r) (by simp)
    show max a (topI (b :: r)) ∈ _ ∧ ∀ x ∈ _, x ≤ max a (topI (b :: r))
    refine ⟨?_, fun x hx => ?_⟩
    · by_cases h : a ≤ topI (b :: r)
      · rw [Int.max_eq_right h]; exact List.mem_cons_of_mem _ h1
      · rw [Int.max_eq_left (by omega)]; exact List.mem_cons_self
    · rcases List.mem_cons.mp hx with e | hx
      · rw [e]; omega
      · have := h2 x hx; omega
theorem lowI_mem : ∀ {l : List Int}, l ≠ [] → lowI l ∈ l ∧ ∀ x ∈ l, lowI l ≤ x
  | [], h => (h rfl).elim
  | [a], _ => by simp [lowI]
  | a :: b :: r, _ => by
    obtain ⟨h1, h2⟩ := lowI_mem (l := b :: r) (by simp)
    show min a (lowI (b :: r)) ∈ _ ∧ ∀ x ∈ _, min a (lowI (b :: r)) ≤ x
    refine ⟨?_, fun x hx => ?_⟩
    · by_cases h : a ≤ lowI (b :: r)
      · rw [Int.min_eq_left h]; exact List.mem_cons_self
      · rw [Int.min_eq_right (by omega)]; exact List.mem_cons_of_mem _ h1
    · rcases List.mem_cons.mp hx with e | hx
      · rw [e]; omega
      · have := h2 x hx; omega
section
variable {X : Cx} {T : Tx}
theorem cd_len (hK : X.K = T.K := by rfl) : CallR X (.builtin "len") (rND T fLen) := by
  rintro pins s σ H xs us Q I rx ⟨c, B, ds, k, ex, t, h, q⟩
  unfold fLen at h
  split at h
  · cases t with
    | cons t r =>
      cases r
      have e := t.str_; subst e
      exact call_len pins s σ H _ us Q I rx ⟨_, _, rfl, ⟨h.1, rfl⟩, q _ _ _ _ h.2 (Res.int _)⟩
  · cases t with
    | cons t r =>
      cases r
      obtain ⟨a, xs, rfl, h1, r1⟩ := t.list ex
      exact call_len pins s σ H _ us Q I rx ⟨_, xs.length, rfl, .inl ⟨xs, .inl (.inl h1), rfl⟩, by rw [r1.length]; exact q _ _ _ _ h (Res.int _)⟩
  · cases t with
    | cons t r =>
      cases r
      obtain ⟨a, xs, rfl, h1, r1⟩ := t.tuple ex
      exact call_len pins s σ H _ us Q I rx ⟨_, xs.length, rfl, .inr ⟨xs, by rw [hK]; exact h1, rfl⟩, by rw [r1.length]; exact q _ _ _ _ h (Res.int _)⟩
  · cases t with
    | cons t r =>
      cases r
      obtain ⟨a, xs, rfl, h1, r1⟩ := t.dict ex
      obtain ⟨u, rfl, ru⟩ := rx.one
      obtain rfl : u = Value.ref a := ru
      exact d_len I (.inl h1) fun t s' I' => ⟨.int _, H, I', ⟨t, rfl⟩, by rw [show xs.length = _ from r1.length]; exact q _ _ _ _ h (Res.int _)⟩
  · rename_i ns
    cases t with
    | cons t r =>
      cases r
      obtain ⟨a, rfl, h1⟩ := t.scr_ ex
      exact call_len pins s σ H _ us Q I rx ⟨_, ns.length, rfl, .inl ⟨_, by rw [hK]; exact h1, by simp⟩, q _ _ _ _ h (Res.int _)⟩
  · exact h.elim
theorem one_list {c : Dx T} {B H : Hp} {xs : List V} {ds : List D} (ex : Ex B H) (t : Tms c B H xs [.lst ds]) : ∃ a vs, xs = [.ref a] ∧ H a = some (.lst vs) ∧ Dens c B vs ds := by
  cases t with
  | cons t r =>
    cases r
    obtain ⟨a, vs, rfl, h, r⟩ := t.list ex
    exact ⟨a, vs, rfl, h, r⟩
theorem one_tup {c : Dx T} {B H : Hp} {xs : List V} {ds : List D} (ex : Ex B H) (t : Tms c B H xs [.tup ds]) : ∃ a vs, xs = [.ref a] ∧ SqT T.K H a vs ∧ Dens c B vs ds ∧ Den c B (.ref a) (.tup ds) := by
  cases t with
  | cons t r =>
    cases r
    obtain ⟨a, vs, rfl, h, r⟩ := t.tuple ex
    refine ⟨a, vs, rfl, h, r, ?_⟩
    cases t with
    | den t => exact t
    | own _ t => cases t
theorem one_int {c : Dx T} {B H : Hp} {xs : List V} {i : Int} (t : Tms c B H xs [.int i]) : xs = [.int i] := by
  cases t with | cons t r => cases r; rw [t.int_]
theorem one_bl {c : Dx T} {B H : Hp} {xs : List V} {i : Bool} (t : Tms c B H xs [.bl i]) : xs = [.bl i] := by
  cases t with | cons t r => cases r; rw [t.bl_]
theorem one_str {c : Dx T} {B H : Hp} {xs : List V} {i : Str} (t : Tms c B H xs [.str i]) : xs = [.str i] := by
  cases t with | cons t r => cases r; rw [t.str_]
theorem two_int {c : Dx T} {B H : Hp} {xs : List V} {i j : Int} (t : Tms c B H xs [.int i, .int j]) : xs = [.int i, .int j] := by
  cases t with
  | cons t r =>
    cases r with
    | cons t2 r => cases r; rw [t.int_, t2.int_]
theorem Dens.blsOf {c : Dx T} {B : Hp} {xs : List V} {ds : List D} {ns : List Bool} (r : Dens c B xs ds) (e : ds = ns.map D.bl) : xs = ns.map V.bl := by subst e; exact r.toBls
theorem cd_sum (hc : X.calm = true) : CallR X (.builtin "sum") (rND T fSum) := by
  rintro pins s σ H xs us Q I rx ⟨c, B, ds, k, ex, t, h, q⟩
  unfold fSum at h
  split at h
  · obtain ⟨a, vs, rfl, h1, r⟩ := one_list ex t
    obtain ⟨ns, e, h⟩ := h
    exact cr_sum hc pins s σ H _ us Q I rx ⟨a, ns, rfl, by rw [← r.intsOf e]; exact .inl (.inl h1), q _ _ _ _ h (Res.int _)⟩
  · exact h.elim
theorem cd_all (hc : X.calm = true) : CallR X (.builtin "all") (rND T fAll) := by
  rintro pins s σ H xs us Q I rx ⟨c, B, ds, k, ex, t, h, q⟩
  unfold fAll at h
  split at h
  · obtain ⟨a, vs, rfl, h1, r⟩ := one_list ex t
    obtain ⟨ns, e, h⟩ := h
    exact cr_all hc pins s σ H _ us Q I rx ⟨a, ns, rfl, by rw [← r.blsOf e]; exact .inl (.inl h1), q _ _ _ _ h (Res.bl _)⟩
  · exact h.elim
theorem cd_any (hc : X.calm = true) : CallR X (.builtin "any") (rND T fAny) := by
  rintro pins s σ H xs us Q I rx ⟨c, B, ds, k, ex, t, h, q⟩
  unfold fAny at h
  split at h
  · obtain ⟨a, vs, rfl, h1, r⟩ := one_list ex t
    obtain ⟨ns, e, h⟩ := h
    exact cr_any hc pins s σ H _ us Q I rx ⟨a, ns, rfl, by rw [← r.blsOf e]; exact .inl (.inl h1), q _ _ _ _ h (Res.bl _)⟩
  · exact h.elim
theorem cd_max (hc : X.calm = true) : CallR X (.builtin "max") (rND T fMax) := by
  rintro pins s σ H xs us Q I rx ⟨c, B, ds, k, ex, t, h, q⟩
  unfold fMax at h
  split at h
  · rename_i i j
    have e := two_int t; subst e
    refine call_max2 hc pins s σ H _ us Q I rx ⟨_, _, rfl, ?_⟩
    rw [show (if j > i then j else i) = max i j from by split <;> omega]
    exact q _ _ _ _ h (Res.int _)
  · obtain ⟨a, vs, rfl, h1, r⟩ := one_list ex t
    obtain ⟨ns, e, ne, h⟩ := h
    obtain ⟨m1, m2⟩ := topI_mem ne
    refine cr_max hc pins s σ H _ us Q I rx ⟨a, ns, rfl, by rw [← r.intsOf e]; exact .inl (.inl h1), List.length_pos_iff.mpr ne, fun m hm hx => ?_⟩
    have e2 : m = topI ns := Int.le_antisymm (m2 m hm) (hx _ m1)
    rw [e2]; exact q _ _ _ _ h (Res.int _)
  · exact h.elim
theorem cd_min (hc : X.calm = true) : CallR X (.builtin "min") (rND T fMin) := by
  rintro pins s σ H xs us Q I rx ⟨c, B, ds, k, ex, t, h, q⟩
  unfold fMin at h
  split at h
  · rename_i i j
    have e := two_int t; subst e
    refine call_min2 hc pins s σ H _ us Q I rx ⟨_, _, rfl, ?_⟩
    rw [show (if j < i then j else i) = min i j from by split <;> omega]
    exact q _ _ _ _ h (Res.int _)
  · obtain ⟨a, vs, rfl, h1, r⟩ := one_list ex t
    obtain ⟨ns, e, ne, h⟩ := h
    obtain ⟨m1, m2⟩ := lowI_mem ne
    refine cr_min hc pins s σ H _ us Q I rx ⟨a, ns, rfl, by rw [← r.intsOf e]; exact .inl (.inl h1), List.length_pos_iff.mpr ne, fun m hm hx => ?_⟩
    have e2 : m = lowI ns := Int.le_antisymm (hx _ m1) (m2 m hm)
    rw [e2]; exact q _ _ _ _ h (Res.int _)
  · exact h.elim
theorem cd_int : CallR X (.type "int") (rND T fInt) := by
  rintro pins s σ H xs us Q I rx ⟨c, B, ds, k, ex, t, h, q⟩
  unfold fInt at h
  split at h
  · have e := one_int t; subst e
    exact call_int1 pins s σ H _ us Q I rx (.inl ⟨_, rfl, q _ _ _ _ h (Res.int _)⟩)
  · have e := one_bl t; subst e
    exact call_int1 pins s σ H _ us Q I rx (.inr ⟨_, rfl, q _ _ _ _ h (Res.int _)⟩)
  · have e := one_str t; subst e
    obtain ⟨n, hn, hl, h⟩ := h
    exact call_int_str pins s σ H _ us Q I rx ⟨_, n, rfl, hn, hl, q _ _ _ _ h (Res.int _)⟩
  · exact h.elim
theorem cd_str : CallR X (.type "str") (rND T fStr) := by
  rintro pins s σ H xs us Q I rx ⟨c, B, ds, k, ex, t, h, q⟩
  unfold fStr at h
  split at h
  · have e := one_int t; subst e
    exact call_str_int pins s σ H _ us Q I rx ⟨_, rfl, h.1, q _ _ _ _ h.2 (Res.str _)⟩
  · have e := one_str t; subst e
    exact SkE.call_str_str pins s σ H _ us Q I rx ⟨_, rfl, q _ _ _ _ h (Res.str _)⟩
  · exact h.elim
theorem cd_bool : CallR X (.type "bool") (rND T fBool) := by
  rintro pins s σ H xs us Q I rx ⟨c, B, ds, k, ex, t, h, q⟩
  unfold fBool at h
  split at h
  · have e := one_int t; subst e
    exact call_bool1 pins s σ H _ us Q I rx (.inl ⟨_, rfl, q _ _ _ _ h (Res.bl _)⟩)
  · have e := one_bl t; subst e
    exact call_bool1 pins s σ H _ us Q I rx (.inr ⟨_, rfl, q _ _ _ _ h (Res.bl _)⟩)
  · obtain ⟨a, vs, rfl, h1, r⟩ := one_list ex t
    exact call_boolL pins s σ H _ us Q I rx ⟨a, vs, rfl, .inl (.inl h1), by rw [isE r.length]; exact q _ _ _ _ h (Res.bl _)⟩
  · exact h.elim
theorem cd_abs : CallR X (.builtin "abs") (rND T fAbs) := by
  rintro pins s σ H xs us Q I rx ⟨c, B, ds, k, ex, t, h, q⟩
  unfold fAbs at h
  split at h
  · have e := one_int t; subst e
    exact call_abs pins s σ H _ us Q I rx ⟨_, rfl, q _ _ _ _ h (Res.int _)⟩
  · exact h.elim
theorem cd_divmod : CallR X (.builtin "divmod") (rND T fDivmod) := by
  rintro pins s σ H xs us Q I rx ⟨c, B, ds, k, ex, t, h, q⟩
  unfold fDivmod at h
  split at h
  · have e := two_int t; subst e
    exact call_divmodW pins s σ H _ us Q I rx ⟨_, _, rfl, ⟨h.1, h.2.1⟩, fun p hp => q _ _ _ _ h.2.2 (Res.newT ex hp (.cons (.int _) (.cons (.int _) .nil)))⟩
  · exact h.elim
theorem cd_list (hc : X.calm = true) (hK : X.K = T.K := by rfl) : CallR X (.type "list") (rND T fList) := by
  rintro pins s σ H xs us Q I rx ⟨c, B, ds, k, ex, t, h, q⟩
  unfold fList at h
  split at h
  · obtain ⟨a, vs, rfl, h1, r⟩ := one_list ex t
    exact call_list_of pins s σ H _ us Q I rx ⟨a, vs, rfl, .inl (.inl (.inl h1)), fun p hp => q _ _ _ _ h (Res.newL ex hp r)⟩
  · obtain ⟨a, vs, rfl, h1, r, _⟩ := one_tup ex t
    exact call_list_of pins s σ H _ us Q I rx ⟨a, vs, rfl, .inr (by rw [hK]; exact h1), fun p hp => q _ _ _ _ h (Res.newL ex hp r)⟩
  · cases t with
    | cons t r =>
      cases r
      obtain ⟨a, xs, rfl, h1, r1⟩ := t.dict ex
      exact call_list_dK hc pins s σ H _ us Q I rx ⟨a, xs, rfl, h1, fun p hp => q _ _ _ _ h (Res.newL ex hp r1.keys)⟩
  · exact h.elim
theorem cd_tuple (hK : X.K = T.K := by rfl) : CallR X (.type "tuple") (rND T fTuple) := by
  rintro pins s σ H xs us Q I rx ⟨c, B, ds, k, ex, t, h, q⟩
  unfold fTuple at h
  split at h
  · obtain ⟨a, vs, rfl, h1, r⟩ := one_list ex t
    exact call_tuple_of pins s σ H _ us Q I rx ⟨a, vs, rfl, .inl ⟨.inl (.inl h1), fun p hp => q _ _ _ _ h (Res.newT ex hp r)⟩⟩
  · obtain ⟨a, vs, rfl, h1, r, n⟩ := one_tup ex t
    exact call_tuple_of pins s σ H _ us Q I rx ⟨a, vs, rfl, .inr ⟨by rw [hK]; exact h1, q _ _ _ _ h (Res.den n)⟩⟩
  · exact h.elim
theorem cd_sorted : CallR X (.builtin "sorted") (rND T fSorted) := by
  rintro pins s σ H xs us Q I rx ⟨c, B, ds, k, ex, t, h, q⟩
  unfold fSorted at h
  split at h
  · obtain ⟨a, vs, rfl, h1, r⟩ := one_list ex t
    obtain ⟨ns, e, h⟩ := h
    refine cr_sortedI pins s σ H _ us Q I rx ⟨a, ns, rfl, by rw [← r.intsOf e]; exact .inl (.inl h1), fun ns' p pm so hp => ?_⟩
    have e2 : ns' = sortI ns := sorted_unique so (sortI_sorted ns) (pm.trans (sortI_perm ns).symm)
    rw [e2]
    exact q _ _ _ _ h (Res.newL ex hp (Dens.ints _))
  · exact h.elim
theorem showable_int {i : Int} (h : (py (.int i)).showable = true) : i.natAbs.log2 < 1920 := by
  have h : decide (i.natAbs.log2 < 1920) = true := h
  exact of_decide_eq_true h
mutual
theorem noDict : ∀ d : D, (py d).hasDict = false
  | .non => rfl
  | .bl _ => rfl
  | .int _ => rfl
  | .str _ => rfl
  | .tup xs => by show (PyData.tuple (pys xs)).hasDict = false; simp only [PyData.hasDict]; exact noDicts xs
  | .lst xs => by show (PyData.list (pys xs)).hasDict = false; simp only [PyData.hasDict]; exact noDicts xs
  | .dic _ => rfl
  | .obj _ _ => rfl
  | .ptr => rfl
  | .clo _ _ => rfl
  | .exc _ _ => rfl
  | .adr _ => rfl
  | .scr _ => rfl
  | .tpz _ => rfl
theorem noDicts : ∀ ds : List D, PyData.hasDictAll (pys ds) = false
  | [] => rfl
  | d :: ds => by show ((py d).hasDict || PyData.hasDictAll (pys ds)) = false; rw [noDict d, noDicts ds]; rfl
end
theorem cd_repr {n : Nat} (hr : Room n X.A) (hg : X.A.guards = some []) (hK : X.K = T.K := by rfl) : CallR X (.builtin "repr") (rND T fRepr) := by
  rintro pins s σ H xs us Q I rx ⟨c, B, ds, k, ex, t, h, q⟩
  unfold fRepr at h
  split at h
  · rename_i d
    obtain ⟨⟨h1, h2, h3, h4⟩, h⟩ := h
    cases t with
    | cons t r =>
      cases r
      obtain ⟨u, rfl, ru⟩ := rx.one
      have dp := t.dp ex h1
      have big : ∀ {a : Addr}, u = Value.ref a → wpAny (model X.prog X.w) X.A (call (.builtin "repr") [u]) (EP X pins σ Q) X.xe s := fun {a} e => by
        subst e
        obtain ⟨as, rd⟩ := Dp.reads I _ _ _ (by rw [hK]; exact dp) ru
        refine repr_of_reads' rd h2 (fun z => by rw [noDict d] at z; cases z) hg (by have := hr.un; omega) (fun _ _ z => z) (fun h' u tk kp => ?_) h3
        exact ⟨.str _, H, I.kept (t' := tk) kp, ⟨_, rfl⟩, q _ _ _ _ h (Res.str _)⟩
      cases d <;> first | (cases (show false = true from h1)) | skip
      case non =>
        have e := t.non_; subst e
        obtain rfl : u = Value.none := ru
        exact PySem.P.repr_of_none ⟨.str _, H, I.tok _, ⟨_, rfl⟩, q _ _ _ _ h (Res.str _)⟩
      case bl b =>
        have e := t.bl_; subst e
        obtain rfl : u = Value.bool b := ru
        exact PySem.P.repr_of_bool ⟨.str _, H, I.tok _, ⟨_, rfl⟩, q _ _ _ _ h (Res.str _)⟩
      case int i =>
        have e := t.int_; subst e
        obtain ⟨t', rfl⟩ := ru
        exact PySem.P.repr_of_int (showable_int h2) ⟨.str _, H, I.tok _, ⟨_, rfl⟩, q _ _ _ _ h (Res.str _)⟩
      case str x =>
        have e := t.str_; subst e
        obtain ⟨t', rfl⟩ := ru
        exact PySem.P.repr_of_str ⟨.str _, H, I.tok _, ⟨_, rfl⟩, q _ _ _ _ h (Res.str _)⟩ h3
      case tup xs =>
        obtain ⟨a, vs, rfl, _, _⟩ := t.tuple ex
        exact big ru
      case lst xs =>
        obtain ⟨a, vs, rfl, _, _⟩ := t.list ex
        exact big ru
  · exact h.elim
end
end Dc
set_option maxHeartbeats 1000000
/-! Data calculus 12: len, repr, str, bool of instances with own defs for them. -/
namespace Dc
open PySem L2 PyProof.Rows PySem.W

/-- what a call of one thing asks: plain data by f, an instance by its class's promise -/
def dCall1 (f : FN) (so : Sps) (ta : RE) : RE := fun x ρ Q => ta x ρ fun d g ρ1 => match d with
  | .obj k os => so [.obj k os] (fun e o => Q e (tagO o) ρ1) (fun _ => False)
  | d => f [d] fun e g => Q e g ρ1
def rOD (T : Tx) (f : FN) (so : Sps) : List V → Hp → VK → Prop := fun xs H Q => rND T f xs H Q ∨ spD T 1 so xs H Q fun _ _ _ => False
def spNone : Sps := fun _ _ _ => False
def spOr (cn : Nat) (s1 s2 : Sps) : Sps := fun ds Qd xd => match ds with
  | [.obj k os] => if k = cn then s1 [.obj k os] Qd xd else s2 [.obj k os] Qd xd
  | _ => False
/-- len: an int that is no less than 0 -/
def lenS (sp : Sps) : Sps := fun ds Qd xd => sp ds (fun d _ => match d with
  | .int n => 0 ≤ n ∧ n < 2 ^ 63 ∧ Qd (.int n) false
  | _ => False) (fun _ => False)
def strS (sp : Sps) : Sps := fun ds Qd xd => sp ds (fun d _ => match d with
  | .str n => Qd (.str n) false
  | _ => False) (fun _ => False)
/-- bool by the length -/
def boolS (sp : Sps) : Sps := fun ds Qd xd => sp ds (fun d _ => match d with
  | .int n => 0 ≤ n ∧ n < 2 ^ 63 ∧ Qd (.bl (n != 0)) false
  | _ => False) (fun _ => False)

section
variable {T : Tx} {W : WX} {f : FN} {so : Sps} {ta : RE}
theorem le_call1 : ∀ σ H Q', liftE T W (dCall1 f so ta) σ H Q' → tCB (rOD T f so) (tCons (liftE T W ta) tNil) σ H Q' := by
  rintro σ H Q' ⟨c, B, ρ, x, Q, R, X, h, q⟩
  refine ⟨c, B, ρ, x, _, R, X, h, fun d g ρ1 v B1 H1 h1 e1 k1 R1 t1 => ?_⟩
  have pl : (f [d] fun e g => Q e g ρ1) → rOD T f so [v] H1 Q' := fun h1 => .inl ⟨c, B1, [d], _, R1.ex, .cons (t1.tm R1) .nil, h1, fun d g v H' hq r => res_to R1 (fun d g ρ' v B' H' hQ e k R' t => q d g ρ' v B' H' hQ (e1.trans e) (k1.trans k) R' t) hq r⟩
  cases d
  case obj k os =>
    exact .inr (spD_at (W := fun _ _ _ _ => False) (x := noX) R1 XW.no (.cons ((t1.tm R1).denO) .nil) rfl h1 fun d g ρ' v B' H' a1 a2 a3 a4 a5 => q _ _ _ _ B' H' a1 (e1.trans a2) (k1.trans a3) a4 a5)
  all_goals exact pl h1
end
/-- the promise of one instance tells which -/
theorem spD.one {T : Tx} {sp : Sps} {xs : List V} {H : Hp} {Q : VK} {E : XK} (h : spD T 1 sp xs H Q E) (ob : ∀ {d Qd xd}, sp [d] Qd xd → ∃ k os, d = .obj k os) : ∃ a k os dx vs, xs = [.ref a] ∧ SlX.Slt H a (T.cl k) dx vs ∧ ∃ (c : Dx T) (B : Hp) (Qd : D → Bool → Prop) (xd : D → Prop), c.H0 = H ∧ Hold c B H ∧ Den c B (.ref a) (.obj k os) ∧ sp [.obj k os] Qd xd ∧
    (∀ d o v B' H', Qd d o → Ex B B' → ExP c H H' → Hold c B' H' → RetOk c B' H' v d o → Q v H') ∧ (∀ e cls dd B' H', xd e → Ex B B' → ExP c H H' → Hold c B' H' → XDen c B' cls dd e → E cls dd H') := by
  obtain ⟨c, B, ds, Qd, xd, h0, ho, r, hl, hs, q, qx⟩ := h
  match ds, hl, r with
  | [d], _, .cons n .nil =>
    obtain ⟨k, os, rfl⟩ := ob hs
    cases n with
    | @obj a dx xs' _ _ sl r => exact ⟨a, k, os, dx, _, rfl, ho.ex.slt sl, c, B, Qd, xd, h0, ho, .obj sl r, hs, q, qx⟩
theorem spOr_obj {cn : Nat} {s1 s2 : Sps} {d : D} {Qd : D → Bool → Prop} {xd : D → Prop} (h : spOr cn s1 s2 [d] Qd xd) : ∃ k os, d = .obj k os := by
  unfold spOr at h
  split at h
  · rename_i k os e
    injection e with e; exact ⟨k, os, e⟩
  · exact h.elim
section
variable {X : Cx} {T : Tx} {k cn : Nat} {f : Addr} {fd : FuncData} {ps : List Str} {sp : Sp} {pins : List (Addr × Obj)} {σ : L2.St} {H : Hp} {s : Shared} {a : Addr} {Q : VK}
/-- an own def called with the instance alone, from below -/
theorem own_call {A : Around} (F : FnG X.prog X.w X.K X.mg X.base k f fd ps sp) (hr : Room k A) (hg : A.guards = some []) (e0 : Env0 X.prog X.w X.K X.mg X.base A X.stack s H) (hb : KB X.K fd ps 1 []) (I : Inv X pins σ H s) (h : sp [.ref a] H Q fun _ _ _ => False) :
    wpAny (model X.prog X.w) A (call (.ref f) [.ref a]) (fun r s' => ∃ v H', Inv X pins σ H' s' ∧ L2.RelV v r ∧ Q v H') X.xe s := by
  refine wpAny_call (codeAny_mono (F.run A X.stack s H ⟨[.ref a], []⟩ [.ref a] [.ref a] Q _ hr hg e0 (hb _ [.ref a] [] I.kIn rfl rfl) (.cons rfl .nil) h) fun r s' hq => ?_)
  cases r with
  | error e =>
    obtain ⟨_, _, _, _, _, _, _, _, _, _, _, _, z⟩ := hq
    exact z.elim
  | ok fl =>
    cases fl with
    | ret u => exact I.after hq
    | next => exact False.elim hq
    | brk => exact False.elim hq
    | cont => exact False.elim hq
end
section
variable {X : Cx} {T : Tx} {k cn : Nat} {f : Addr} {fd : FuncData} {ps : List Str} {sp s2 : Sps} {f0 : FN} {g : Value}
theorem co_none (h : CallR X g (rND T f0)) : CallR X g (rOD T f0 spNone) := by
  intro pins s σ H xs us Q I rx hq
  rcases hq with hq | ⟨c, B, ds, Qd, xd, _, _, _, _, z, _⟩
  · exact h pins s σ H xs us Q I rx hq
  · exact z.elim
/-- a further class -/
theorem co_cls {s1 : Sps} (h : CallR X g (rOD T f0 s2)) (h1 : ∀ (pins : List (Addr × Obj)) (s : Shared) (σ : L2.St) (H : Hp) (a dx : Addr) (vs : List (Option V)) (Q : VK), Inv X pins σ H s → SlX.Slt H a (T.cl cn) dx vs → spD T 1 s1 [.ref a] H Q (fun _ _ _ => False) →
    wpAny (model X.prog X.w) X.A (call g [.ref a]) (EP X pins σ Q) X.xe s) : CallR X g (rOD T f0 (spOr cn s1 s2)) := by
  intro pins s σ H xs us Q I rx hq
  rcases hq with hq | hq
  · exact h pins s σ H xs us Q I rx (.inl hq)
  · obtain ⟨a, n, os, dx, vs, rfl, sl, c, B, Qd, xd, h0, ho, den, hs, q, qx⟩ := hq.one spOr_obj
    by_cases e : n = cn
    · subst e
      obtain ⟨u, rfl, ru⟩ := rx.one
      obtain rfl : u = Value.ref a := ru
      have hs : (if n = n then s1 [.obj n os] Qd xd else _) := hs
      rw [if_pos rfl] at hs
      exact h1 pins s σ H a dx vs Q I sl ⟨c, B, _, Qd, xd, h0, ho, .cons den .nil, rfl, hs, q, qx⟩
    · have hs : (if n = cn then _ else s2 [.obj n os] Qd xd) := hs
      rw [if_neg e] at hs
      exact h pins s σ H _ us Q I rx (.inr ⟨c, B, _, Qd, xd, h0, ho, .cons den .nil, rfl, hs, q, qx⟩)
/-- another wish about what comes back -/
theorem spD.post {sp sp' : Sps} {P : D → Bool → Prop} {n : Nat} {vs : List V} {H : Hp} {Q : VK} {E : XK} (h : spD T n sp' vs H Q E) (Q2 : VK)
    (k : ∀ ds Qd xd, sp' ds Qd xd → sp ds (fun d o => ∃ e o', Qd e o' ∧ ∀ (c : Dx T) B H v, RetOk c B H v d o → ∃ w, RetOk c B H w e o' ∧ ∀ H', Q w H' → Q2 v H') xd) : spD T n sp vs H Q2 E := by
  obtain ⟨c, B, ds, Qd, xd, h0, ho, r, hl, hs, q, qx⟩ := h
  exact ⟨c, B, ds, _, xd, h0, ho, r, hl, k ds Qd xd hs, fun d o v B' H' ⟨e, o', hq, z⟩ eb kp ho' ro => by
    obtain ⟨w, ro', z⟩ := z c B' H' v ro
    exact z H' (q e o' w B' H' hq eb kp ho' ro'), qx⟩
theorem RetOk.int_ {c : Dx T} {B H : Hp} {v : V} {i : Int} {o : Bool} (h : RetOk c B H v (.int i) o) : v = .int i := by
  cases h with
  | p h => cases h; rfl
  | f _ h => cases h
theorem RetOk.str_ {c : Dx T} {B H : Hp} {v : V} {i : Str} {o : Bool} (h : RetOk c B H v (.str i) o) : v = .str i := by
  cases h with
  | p h => cases h; rfl
  | f _ h => cases h
theorem co_len (F : FnG X.prog X.w X.K X.mg X.base k f fd ps (spD T 1 sp)) (hr : Room (k + 1) X.A) (hg : X.A.guards = some []) (hb : KB X.K fd ps 1 []) (hs : findIn X.K (.ref (T.cl cn)) "__len__" = some (some (.ref f))) (hf : isFn X.K (.ref f) = true)
    (h : CallR X (.builtin "len") (rOD T f0 s2)) : CallR X (.builtin "len") (rOD T f0 (spOr cn (lenS sp) s2)) := by
  refine co_cls h fun pins s σ H a dx vs Q I sl hq => ?_
  obtain ⟨_, od, _, J, _⟩ := SlX.slt_inst I sl
  obtain ⟨m, hF⟩ := I.fr
  refine len_K hF I.ok.mod.kin J hs hf (wpAny_mono (own_call (Q := fun v H' => ∃ n, v = .int n ∧ 0 ≤ n ∧ n < 2 ^ 63 ∧ Q (.int n) H') F hr.in1 hg I.env0.in1 hb I ?_) (fun r s' hv => ?_) fun _ _ e => e)
  · obtain ⟨c, B, ds, Qd, xd, h0, ho, r, hl, hs, q, qx⟩ := hq
    refine ⟨c, B, ds, _, _, h0, ho, r, hl, hs, fun d o v B' H' hq eb kp ho' ro => ?_, fun e cls dd B' H' z => z.elim⟩
    cases d <;> first | exact hq.elim | skip
    case int n => exact ⟨n, ro.int_, hq.1, hq.2.1, q _ _ _ B' H' hq.2.2 eb kp ho' (.p (.int n))⟩
  · obtain ⟨v, H', I', rv, n, rfl, h0, h1, q⟩ := hv
    obtain ⟨t, rfl⟩ := rv
    exact ⟨⟨h0, h1⟩, .int n, H', I'.tok _, ⟨_, rfl⟩, q⟩
theorem co_repr (F : FnG X.prog X.w X.K X.mg X.base k f fd ps (spD T 1 sp)) (hr : Room (k + 1) X.A) (hg : X.A.guards = some []) (hb : KB X.K fd ps 1 []) (hs : findIn X.K (.ref (T.cl cn)) "__repr__" = some (some (.ref f))) (hf : isFn X.K (.ref f) = true)
    (h : CallR X (.builtin "repr") (rOD T f0 s2)) : CallR X (.builtin "repr") (rOD T f0 (spOr cn (strS sp) s2)) := by
  refine co_cls h fun pins s σ H a dx vs Q I sl hq => ?_
  obtain ⟨_, od, _, J, _⟩ := SlX.slt_inst I sl
  obtain ⟨m, hF⟩ := I.fr
  refine repr_K (by have := hr.un; show X.A.units + 1 < cLine; omega) hF I.ok.mod.kin J hs hf (wpAny_mono (own_call (Q := fun v H' => ∃ n, v = .str n ∧ Q (.str n) H') F hr.in1 hg I.env0.in1 hb I ?_) (fun r s' hv => ?_) fun _ _ e => e)
  · obtain ⟨c, B, ds, Qd, xd, h0, ho, r, hl, hs, q, qx⟩ := hq
    refine ⟨c, B, ds, _, _, h0, ho, r, hl, hs, fun d o v B' H' hq eb kp ho' ro => ?_, fun e cls dd B' H' z => z.elim⟩
    cases d <;> first | exact hq.elim | skip
    case str n => exact ⟨n, ro.str_, q _ _ _ B' H' hq eb kp ho' (.p (.str n))⟩
  · obtain ⟨v, H', I', rv, n, rfl, q⟩ := hv
    obtain ⟨t, rfl⟩ := rv
    exact ⟨.str n, H', I', ⟨_, rfl⟩, q⟩
end
/-! str(x), bool(x) -/
section
variable {prog : Program} {w : World} {A : Around} {E : Value → Shared → Prop} {s : Shared} {K : Frag} {x C f : Addr} {ox : Obj} {od : Option Obj}
theorem str_own {Q : Value → Shared → Prop} (hu : A.in1.in1.units < cLine) (X : K.In s.heap) (I : InstAt s.heap x ox C od) (hs : findIn K (.ref C) "__str__" = some (some (.ref f))) (hf : isFn K (.ref f) = true)
    (h : wpAny (model prog w) A.in1.in1 (call (.ref f) [.ref x]) (fun r s₁ => ∃ n u, r = Value.str n u ∧ Q r s₁) E s) : wpAny (model prog w) A (call (.type "str") [.ref x]) Q E s := by
  refine callType_codes (T := "str") (Bi := Builtin.«object.__init__») (Q₁ := fun r s₁ => ∃ n u, r = Value.str n u ∧ Q r s₁) PySem.F.called_str (PySem.F.typeCall_str_1 _) PySem.F.entry_object_init ?_ ?_
  · refine codeAny_of_tree ?_
    show wpAny _ A.in1.in1 (do checkBuiltinCall "str.__new__" ⟨[.type "str", .ref x], []⟩; again (.builtin "str.__new__" ⟨[.type "str", .ref x], []⟩)) _ _ s
    refine wpAny_bind (wpAny_of_eq (PySem.F.newCall_str_1 _) (wpAny_pure ⟨plainId_quiet (by decide +kernel) _, codeAny_builtin PySem.F.entry_str_new ?_⟩))
    rw [Around.under_plainId (by decide +kernel) _, str_new_tree]
    refine wpAny_bind (wpAny_pure ?_)
    refine wpAny_bind (wpAny_of_eq isSubtype_str_str ?_)
    refine wpAny_bind (m := Builtin.Str.strOf (.ref x)) ?_
    unfold Builtin.Str.strOf
    rw [show Builtin.Str.isExactStr (.ref x) = false from rfl]
    refine wpAny_bind (m := cRoomFor _ _) (wpAny_cRoomFor hu ?_)
    refine wpAny_bind (m := callSpecial? (.ref x) (Str.ofString "__str__")) (special_fn X I hs (beq_iff_eq.mp hf) (wpAny_mono h (fun r s' hr => ?_) fun _ _ y => y))
    obtain ⟨n, u, rfl, hq⟩ := hr
    exact wpAny_pure (wpAny_pure ⟨n, u, rfl, hq⟩)
  · rintro obj s₁ ⟨n, u, rfl, hq⟩
    exact ⟨typeIs_str _ _ _, PySem.F.args_object_init_2 _ _, object_init_meets PySem.F.called_str.init.lookup PySem.F.called_str.made (by decide) prog w A.in1 _ s₁ ⟨typeIs_str _ _ _, rfl, hq⟩⟩
theorem truthy_own {Q : Bool → Shared → Prop} (X : K.In s.heap) (I : InstAt s.heap x ox C od) (hb : findIn K (.ref C) "__bool__" = some none) (hs : findIn K (.ref C) "__len__" = some (some (.ref f))) (hf : isFn K (.ref f) = true)
    (h : wpAny (model prog w) A.in1 (call (.ref f) [.ref x]) (fun r s₁ => ∃ n u, r = Value.int n u ∧ 0 ≤ n ∧ n < 2 ^ 63 ∧ Q (n != 0) { s₁ with toks := s₁.toks + 1 }) E s) : wpAny (model prog w) A (truthy (.ref x)) Q E s := by
  unfold truthy
  refine wpAny_bind (m := callSpecial? (.ref x) (Str.ofString "__bool__")) (wpAny_bind (wpAny_bind (I.type.here ((looks_findIn X hb).here (wpAny_pure ?_)))))
  refine wpAny_bind (wpAny_bind (I.type.here ((looks_findIn X hs).here ?_)))
  rw [if_neg (by simp)]
  refine wpAny_bind (wpAny_runValue (codeAny_builtin entry_len ?_))
  rw [Around.under_plainId plain_len _]
  unfold Builtin.«len»
  refine wpAny_bind (m := oneArg "len" _) (wpAny_pure ?_)
  refine wpAny_bind (m := callSpecial? (.ref x) (Str.ofString "__len__")) (special_fn X I hs (beq_iff_eq.mp hf) (wpAny_mono h (fun r s' hr => ?_) fun _ _ y => y))
  obtain ⟨n, u, rfl, h0, h1, hq⟩ := hr
  refine wpAny_bind (wpAny_holding (wpAny_pure ?_))
  refine wpAny_bind (wpAny_letGo ?_)
  show wpAny _ _ (if n < 0 then _ else _) _ _ _
  rw [if_neg (by omega)]
  show wpAny _ _ (if n ≥ 2 ^ 63 then _ else _) _ _ _
  rw [if_neg (by omega)]
  exact wpAny_bind (wpAny_mkInt (wpAny_pure (wpAny_pure hq)))
theorem bool_own {Q : Value → Shared → Prop} (X : K.In s.heap) (I : InstAt s.heap x ox C od) (hb : findIn K (.ref C) "__bool__" = some none) (hs : findIn K (.ref C) "__len__" = some (some (.ref f))) (hf : isFn K (.ref f) = true)
    (h : wpAny (model prog w) A.in1.in1.in1 (call (.ref f) [.ref x]) (fun r s₁ => ∃ n u, r = Value.int n u ∧ 0 ≤ n ∧ n < 2 ^ 63 ∧ Q (.bool (n != 0)) { s₁ with toks := s₁.toks + 1 }) E s) : wpAny (model prog w) A (call (.type "bool") [.ref x]) Q E s := by
  refine callType_codes (T := "bool") (Bi := Builtin.«object.__init__») (Q₁ := fun r s₁ => ∃ b, r = Value.bool b ∧ Q r s₁) PySem.F.called_bool (PySem.F.typeCall_bool_1 _) PySem.F.entry_object_init ?_ ?_
  · refine codeAny_of_tree ?_
    show wpAny _ A.in1.in1 (do checkBuiltinCall "bool.__new__" ⟨[.type "bool", .ref x], []⟩; again (.builtin "bool.__new__" ⟨[.type "bool", .ref x], []⟩)) _ _ s
    refine wpAny_bind (wpAny_of_eq (PySem.F.newCall_bool_1 _) (wpAny_pure ⟨plainId_quiet (by decide +kernel) _, codeAny_builtin PySem.F.entry_bool_new ?_⟩))
    rw [Around.under_plainId (by decide +kernel) _]
    unfold Builtin.«bool.__new__»
    refine wpAny_bind (wpAny_pure ?_)
    refine wpAny_bind (wpAny_of_eq PySem.F.conv_sub_bool ?_)
    refine wpAny_bind (m := someArgs "bool" 0 1 _) (wpAny_pure ?_)
    refine wpAny_bind (m := truthy (.ref x)) (truthy_own X I hb hs hf (wpAny_mono h (fun r s' hr => ?_) fun _ _ y => y))
    obtain ⟨n, u, rfl, h0, h1, hq⟩ := hr
    exact ⟨n, u, rfl, h0, h1, wpAny_pure ⟨_, rfl, hq⟩⟩
  · rintro obj s₁ ⟨b, rfl, hq⟩
    exact ⟨PySem.typeIs_bool _ _, PySem.F.args_object_init_2 _ _, object_init_meets PySem.F.called_bool.init.lookup PySem.F.called_bool.made (by decide) prog w A.in1 _ s₁ ⟨PySem.typeIs_bool _ _, rfl, hq⟩⟩
end
section
variable {X : Cx} {T : Tx} {k cn : Nat} {f : Addr} {fd : FuncData} {ps : List Str} {sp s2 : Sps} {f0 : FN}
theorem co_str (F : FnG X.prog X.w X.K X.mg X.base k f fd ps (spD T 1 sp)) (hr : Room (k + 2) X.A) (hg : X.A.guards = some []) (hb : KB X.K fd ps 1 []) (hs : findIn X.K (.ref (T.cl cn)) "__str__" = some (some (.ref f))) (hf : isFn X.K (.ref f) = true)
    (h : CallR X (.type "str") (rOD T f0 s2)) : CallR X (.type "str") (rOD T f0 (spOr cn (strS sp) s2)) := by
  refine co_cls h fun pins s σ H a dx vs Q I sl hq => ?_
  obtain ⟨_, od, _, J, _⟩ := SlX.slt_inst I sl
  have r2 : Room k X.A.in1.in1 := (show Room (k + 1) X.A.in1 from Room.in1 hr).in1
  refine str_own r2.units0 I.kIn J hs hf (wpAny_mono (own_call (Q := fun v H' => ∃ n, v = .str n ∧ Q (.str n) H') F r2 hg I.env0.in1.in1 hb I ?_) (fun r s' hv => ?_) fun _ _ e => e)
  · obtain ⟨c, B, ds, Qd, xd, h0, ho, r, hl, hs, q, qx⟩ := hq
    refine ⟨c, B, ds, _, _, h0, ho, r, hl, hs, fun d o v B' H' hq eb kp ho' ro => ?_, fun e cls dd B' H' z => z.elim⟩
    cases d <;> first | exact hq.elim | skip
    case str n => exact ⟨n, ro.str_, q _ _ _ B' H' hq eb kp ho' (.p (.str n))⟩
  · obtain ⟨v, H', I', rv, n, rfl, q⟩ := hv
    obtain ⟨t, rfl⟩ := rv
    exact ⟨n, t, rfl, .str n, H', I', ⟨_, rfl⟩, q⟩
theorem co_bool (F : FnG X.prog X.w X.K X.mg X.base k f fd ps (spD T 1 sp)) (hr : Room (k + 3) X.A) (hg : X.A.guards = some []) (hb : KB X.K fd ps 1 []) (h0 : findIn X.K (.ref (T.cl cn)) "__bool__" = some none) (hs : findIn X.K (.ref (T.cl cn)) "__len__" = some (some (.ref f))) (hf : isFn X.K (.ref f) = true)
    (h : CallR X (.type "bool") (rOD T f0 s2)) : CallR X (.type "bool") (rOD T f0 (spOr cn (boolS sp) s2)) := by
  refine co_cls h fun pins s σ H a dx vs Q I sl hq => ?_
  obtain ⟨_, od, _, J, _⟩ := SlX.slt_inst I sl
  have r2 : Room k X.A.in1.in1.in1 := (show Room (k + 1) X.A.in1.in1 from (show Room (k + 2) X.A.in1 from Room.in1 hr).in1).in1
  refine bool_own I.kIn J h0 hs hf (wpAny_mono (own_call (Q := fun v H' => ∃ n, v = .int n ∧ 0 ≤ n ∧ n < 2 ^ 63 ∧ Q (.bl (n != 0)) H') F r2 hg I.env0.in1.in1.in1 hb I ?_) (fun r s' hv => ?_) fun _ _ e => e)
  · obtain ⟨c, B, ds, Qd, xd, h0, ho, r, hl, hs, q, qx⟩ := hq
    refine ⟨c, B, ds, _, _, h0, ho, r, hl, hs, fun d o v B' H' hq eb kp ho' ro => ?_, fun e cls dd B' H' z => z.elim⟩
    cases d <;> first | exact hq.elim | skip
    case int n => exact ⟨n, ro.int_, hq.1, hq.2.1, q _ _ _ B' H' hq.2.2 eb kp ho' (.p (.bl _))⟩
  · obtain ⟨v, H', I', rv, n, rfl, h0, h1, q⟩ := hv
    obtain ⟨t, rfl⟩ := rv
    exact ⟨n, t, rfl, h0, h1, .bl _, H', I'.tok _, rfl, q⟩
end
/-! the rules: f(e), T(e) of one thing that may be an instance -/
section
variable {X : Cx} {T : Tx} {W : WX} {e : Expr} {re : RE} {pos : Pos} {x : Str} {p : Pos} {id : String} {f : FN} {so : Sps}
theorem qe_oneB (hc : CallR X (.builtin id) (rOD T f so)) (hm : X.mg x = none) (hv : bootBuiltins x = some (.builtin id)) (he : PE X e (liftE T W re)) (hg : Gl X x := by rfl) (hn : x ≠ "__name__" := by decide) (hdb : (x == ("__debug__" : Str)) = false := by decide)
    (hs : starEach (e :: []) X.env = (false, eval e X.env) :: starEach [] X.env := by rfl) (hpl : (backTo pos (starEach [] X.env)).any (·.1) = false := by rfl) : PE X (.Call (.Name x p) [e] [] pos) (liftE T W (dCall1 f so re)) :=
  (pe_callB hc hg hm hv (pa_cons he pa_nil hs) hn hdb hs hpl).imp le_call1
theorem qe_oneT (hc : CallR X (.type id) (rOD T f so)) (hm : X.mg x = none) (hv : bootBuiltins x = some (.type id)) (he : PE X e (liftE T W re)) (hg : Gl X x := by rfl) (hn : x ≠ "__name__" := by decide) (hdb : (x == ("__debug__" : Str)) = false := by decide)
    (hs : starEach (e :: []) X.env = (false, eval e X.env) :: starEach [] X.env := by rfl) (hpl : (backTo pos (starEach [] X.env)).any (·.1) = false := by rfl) : PE X (.Call (.Name x p) [e] [] pos) (liftE T W (dCall1 f so re)) :=
  (pe_callTy hc hg hm hv (pa_cons he pa_nil hs) hn hdb hs hpl).imp le_call1
end
end Dc
set_option maxHeartbeats 2000000
/-! Data calculus 13: enumerate of lists and tuples, isinstance, texts. -/
namespace PySem
open Sem (wp)
open AutoSeq1 (wpAny_loadPart')
theorem Dc_enum_newT (l : Addr) (o : Obj) (items : Array Value) (ho : o.cls = .type "tuple") (hd : ∃ n, o.data = .seq items n) :
    Meets (Builtin.«enumerate.__new__» ⟨[.type "enumerate", .ref l], []⟩) (fun _ R s => s.heap.get? l = some o ∧
      R (.ok (.ret (.ref (s.heap.push { cls := .type "tuple_iterator", data := .fields #[.ref l, .int 0 0] }).objs.size)))
        { s with heap := (s.heap.push { cls := .type "tuple_iterator", data := .fields #[.ref l, .int 0 0] }).push { cls := .type "enumerate", data := .fields #[.none, .bool false, .ref s.heap.objs.size, rawInt 0, .none, .none] } }) :=
  .of_wp fun prog w A R s h => by
    obtain ⟨hp, g, d, tk, os⟩ := s; obtain ⟨hl, h⟩ := h
    obtain ⟨n, hd⟩ := hd
    obtain ⟨cl, dct, dt, sl⟩ := o
    simp only at ho hd
    subst ho hd
    have hsub := sub_enumerate
    have hL : Heap.IsTuple (Shared.heap ⟨hp, g, d, tk, os⟩) l items := ⟨_, hl, rfl, n, rfl⟩
    wp_walk using wpAny_loadPart' hl
    refine wpAny_stack_any fun st => wpAny_pure ?_
    split
    · rename_i c _ _ _ _ _
      cases (c == Value.type "enumerate")
      · wp_walk using wpAny_loadPart' hl, wpAny_pyIter_tuple hL
        exact ⟨_, rfl, h⟩
      · wp_walk using wpAny_loadPart' hl, wpAny_pyIter_tuple hL
        exact ⟨_, rfl, h⟩
    · wp_walk using wpAny_loadPart' hl, wpAny_pyIter_tuple hL
      exact ⟨_, rfl, h⟩
end PySem
namespace Dc
open PySem L2 PyProof.Rows PySem.W
section
variable {prog : Program} {w : World} {A : Around} {E : Value → Shared → Prop} {s : Shared}
theorem call_enumT {l : Addr} {items : Array Value} {Q : Value → Shared → Prop} (hL : s.heap.IsTuple l items)
    (h : ∀ h', IsEnum h' (s.heap.objs.size + 1) s.heap.objs.size 0 .none → h'.IsTupleIter s.heap.objs.size l 0 →
      (∀ b o, s.heap.get? b = some o → h'.get? b = some o) → Q (.ref (s.heap.objs.size + 1)) { s with heap := h' }) : wpAny (model prog w) A (call (.type "enumerate") [.ref l]) Q E s := by
  obtain ⟨o, hl, hc, hd⟩ := hL
  refine callType_new F.called_enumerate (by decide) (F.typeCall_enumerate_1 _) (F.newCall_enumerate_1 _) (fun obj => F.args_object_init_2 obj _) F.entry_enumerate_new (Dc_enum_newT l o items hc hd) ⟨hl, ?_⟩
  have hz : (s.heap.push { cls := .type "tuple_iterator", data := .fields #[.ref l, .int 0 0] }).objs.size = s.heap.objs.size + 1 := Heap.size_push ..
  show _ ∧ _
  rw [hz]
  have he : IsEnum ((s.heap.push { cls := .type "tuple_iterator", data := .fields #[.ref l, .int 0 0] }).push
      { cls := .type "enumerate", data := .fields #[.none, .bool false, .ref s.heap.objs.size, rawInt 0, .none, .none] }) (s.heap.objs.size + 1) s.heap.objs.size 0 .none := by
    have := Heap.get?_push_size (s.heap.push { cls := .type "tuple_iterator", data := .fields #[.ref l, .int 0 0] })
      (o := { cls := .type "enumerate", data := .fields #[.none, .bool false, .ref s.heap.objs.size, rawInt 0, .none, .none] }) rfl
    rw [hz] at this; exact this
  exact ⟨⟨_, he, rfl⟩, h _ he ⟨_, Heap.get?_push_of_some _ (Heap.get?_push_size _ rfl), rfl, rfl⟩ fun b o x => Heap.get?_push_of_some _ (Heap.get?_push_of_some _ x)⟩
end
/-- the tuple at a, each item in a new pair -/
def Ett (K : Frag) (a : Addr) : It :=
  ⟨fun i H => ∃ (xs : List V) (x : V), SqT K H a xs ∧ xs[i]? = some x, fun i H v H' => ∃ p x, v = .ref p ∧ H p = none ∧ H' = upd H p (.tup [.int (i : Nat), x]) ∧ ∀ xs, SqT K H a xs → xs[i]? = some x, fun i H => ∃ xs : List V, SqT K H a xs ∧ xs.length = i⟩
theorem turn_enumT {P : Program} {w : World} {K : Frag} {elts : List Expr} {kk : Nat} {tpos : Pos} (a e it : Addr) (n1 : e ≠ it) (n2 : a ≠ it) (n3 : e ≠ a) :
    Turn P w K (.Tuple elts kk tpos) (Ett K a) [e, it] e (fun i h => (∃ old, IsEnum h e it ((i : Nat) : Int) old) ∧ h.IsTupleIter it a i) where
  mem := by simp
  obj := fun i h st b hb => by
    obtain ⟨⟨old, he⟩, ⟨o, ho, hc, hd⟩⟩ := st
    have e' : b = e ∨ b = it := by simpa using hb
    rcases e' with z | z
    · rw [z]; exact ⟨_, he, fun v q => nomatch q⟩
    · rw [z]; exact ⟨o, ho, fun v q => by rw [hd] at q; cases q⟩
  keep := fun i h h' st k => let ⟨⟨old, he⟩, hi⟩ := st; ⟨⟨old, k e (by simp) _ he⟩, hi.at fun o q => k it (by simp) o q⟩
  item := by
    intro X hP hw hK hc i pins s σ H E I hf st hg
    subst hP hw hK
    obtain ⟨⟨old, he⟩, hit⟩ := st
    obtain ⟨xs, x, hq, hx⟩ := hg
    obtain ⟨its, rv, p, hz⟩ := I.tuple hq
    obtain ⟨u, hu, ru⟩ := rv.get hx
    have hel : e < s.heap.objs.size := Heap.lt_size he
    have hil : it < s.heap.objs.size := by obtain ⟨_, q, _⟩ := hit; exact Heap.lt_size q
    have hh : X.A.handled = none := I.ok.hd hc
    have hlt : i < its.toArray.size := by simpa using (List.getElem?_eq_some_iff.mp hu).1
    refine wpAny_pyNext_enum_itemD (Draws.tuple (A := X.A.in1) hh it a n2 its.toArray) he ⟨hit, p⟩ hlt n1 (by simp [n1, n3]) fun x' h' tk hx' ho st' hT hsz hk => ?_
    have ex : x' = u := by
      have hx' : its.toArray[i]? = some x' := hx'
      rw [show its.toArray[i]? = some u from by simpa using hu] at hx'
      exact (Option.some.inj hx').symm
    subst ex
    refine ⟨_, rfl, wpAny_letOwnedTupleGo_enum (s := { s with heap := h', toks := tk + 1 }) ho fun h'' he' sb => ?_⟩
    have hT2 : h''.get? s.heap.objs.size = some { cls := .type "tuple", data := .seq #[.int i tk, x'] } := (sb.2 _ (Nat.ne_of_gt hel)).trans hT
    have new : ObjOk X.prog X.w (upd H s.heap.objs.size (.tup [.int (i : Nat), x])) h'' s.heap.objs.size (.tup [.int (i : Nat), x]) :=
      ⟨by show 2 ≤ sizeLine; decide, [.int i tk, x'], .cons ⟨_, rfl⟩ (.cons ru .nil), ⟨_, hT2, rfl, _, rfl⟩⟩
    have I1 : L2.Inv X pins σ (upd H s.heap.objs.size (.tup [.int (i : Nat), x])) { s with heap := h'', toks := tk + 1 } :=
      I.turnedNew (ch := [e, it]) (fun b ob hb q => (sb.2 b (fun z => hb (by simp [z]))).trans (hk b ob (fun z => hb (by simp [z])) (fun z => hb (by simp [z])) q)) hf (Nat.le_refl _) new
    refine ⟨.ref s.heap.objs.size, _, I1, rfl, ⟨_, x, rfl, I.hok.fresh (Nat.le_refl _), rfl, fun ys hy => by rw [I.tuple_inj hy hq]; exact hx⟩, ⟨⟨x', ?_⟩, st'.1.at fun o q => (sb.2 it (Ne.symm n1)).trans q⟩, fun b hb => ?_⟩
    · have e1 : ((i + 1 : Nat) : Int) = (i : Int) + 1 := by omega
      rw [e1]; exact he'
    · have hb' : b < s.heap.objs.size := by
        have e' : b = e ∨ b = it := by simpa using hb
        rcases e' with z | z
        · rw [z]; exact hel
        · rw [z]; exact hil
      rw [upd_ne (Nat.ne_of_lt hb')]
      exact (hf b hb).1
  done := by
    intro X hP hw hK hc i pins s σ H E I hf st hg
    subst hP hw hK
    obtain ⟨⟨old, he⟩, hit⟩ := st
    obtain ⟨xs, hq, hx⟩ := hg
    obtain ⟨its, rv, p, hz⟩ := I.tuple hq
    obtain ⟨f0, f1, f2, f3, f4, f5⟩ := hf it (by simp)
    have hl := rv.length
    have ei : i = its.toArray.size := by rw [List.size_toArray, ← hl]; exact hx.symm
    rw [ei] at hit
    have hh : X.A.handled = none := I.ok.hd hc
    exact wpAny_pyNext_enum_endD (Draws.tuple (A := X.A.in1) hh it a n2 its.toArray) he ⟨hit, p⟩ fun h' eb => ⟨rfl, I.turned (t' := s.toks) (fun b o hb q => eb b o hb q) f0 f1 f3 f4 f5⟩
  self := fun A i s Q E st h => let ⟨⟨_, he⟩, _⟩ := st; wpAny_pyIter_enum he h
/-- pairs of the number and the thing -/
def iEnumA (K : Frag) (ta : TA) : TI := fun σ H R => ta σ H fun vs H1 => ∃ a xs, vs = [.ref a] ∧ ((SqL K H1 a xs ∧ R (Ite K a) H1) ∨ (SqT K H1 a xs ∧ R (Ett K a) H1))
theorem pi_enumA {X : Cx} {e : Expr} {ta : TA} {p pos tpos : Pos} {elts : List Expr} {kk : Nat} (hg : Gl X "enumerate") (hm : X.mg "enumerate" = none) (ha : PA X [e] ta) (hs : starEach [e] X.env = [(false, eval e X.env)] := by rfl) :
    PI X (.Tuple elts kk tpos) (.Call (.Name "enumerate" p) [e] [] pos) (iEnumA X.K ta) := by
  refine ⟨fun pins s σ H R I h => ?_⟩
  refine Call_ (ld_blt I hg hm boot_enumerate (PyProof.Rows.callWith_type1 (thn (ha.run pos pins s σ H _ I h) fun us s1 ⟨vs, H1, I1, r1, q1⟩ => ?_) hs rfl))
  obtain ⟨a, xs, ex, q⟩ := q1
  subst ex
  cases r1 with
  | cons r rr =>
    cases rr
    cases r
    have fin : ∀ {J : It} {tn : Nat → Heap → Prop} {h' : Heap}, L2.Inv X pins σ H1 { s1 with heap := h' } → Turn X.prog X.w X.K (.Tuple elts kk tpos) J [s1.heap.objs.size + 1, s1.heap.objs.size] (s1.heap.objs.size + 1) tn → tn 0 h' → R J H1 →
        PIE X pins σ (.Tuple elts kk tpos) R (.ref (s1.heap.objs.size + 1)) { s1 with heap := h' } := fun {J tn h'} I2 T st q => by
      refine ⟨s1.heap.objs.size + 1, [s1.heap.objs.size + 1, s1.heap.objs.size], _, _, H1, rfl, I2, T, st, fun b hb => ?_, q⟩
      have e' : b = s1.heap.objs.size + 1 ∨ b = s1.heap.objs.size := by simpa using hb
      have hle : s1.heap.objs.size ≤ b := by
        rcases e' with z | z
        · rw [z]; exact Nat.le_add_right _ _
        · rw [z]; exact Nat.le_refl _
      exact I1.fpOk hle (I1.hok.fresh hle)
    rcases q with ⟨hq, q⟩ | ⟨hq, q⟩
    · obtain ⟨its, rv, p', hz⟩ := I1.list hq
      refine call_enumerate_list p'.isList fun h' he hit hsz hk => wpAny_pyIter_enum he ?_
      exact fin (I1.kept (t' := s1.toks) hk) (turn_enum a (s1.heap.objs.size + 1) s1.heap.objs.size) ⟨⟨.none, he⟩, hit, Nat.succ_ne_self _⟩ q
    · obtain ⟨its, rv, p', hz⟩ := I1.tuple hq
      have al : a < s1.heap.objs.size := by obtain ⟨o, ho, _⟩ := p'; exact Heap.lt_size ho
      refine call_enumT p' fun h' he hit hk => wpAny_pyIter_enum he ?_
      exact fin (I1.kept (t' := s1.toks) hk) (turn_enumT a (s1.heap.objs.size + 1) s1.heap.objs.size (Nat.succ_ne_self _) (Nat.ne_of_lt al) (Ne.symm (Nat.ne_of_lt (Nat.lt_succ_of_lt al)))) ⟨⟨.none, he⟩, hit⟩ q
def iEnumD (t : RE) : RI := fun x ρ Q => t x ρ fun d g ρ1 => items d fun ds => Q (numbered ds) (leak d g ρ1)
theorem numbered_get {ds : List D} {i : Nat} {e : D} (h : (numbered ds)[i]? = some e) : ∃ d, ds[i]? = some d ∧ e = .tup [.int (i : Nat), d] := by
  unfold numbered at h
  rw [List.getElem?_map] at h
  cases q : ds.zipIdx[i]? with
  | none => rw [q] at h; cases h
  | some p =>
    rw [q] at h
    rw [List.getElem?_zipIdx] at q
    cases z : ds[i]? with
    | none => rw [z] at q; cases q
    | some d =>
      rw [z] at q
      simp at q; subst q
      simp at h
      exact ⟨d, rfl, h.symm⟩
theorem numbered_length {ds : List D} : (numbered ds).length = ds.length := by simp [numbered]
section
variable {T : Tx} {c : Dx T} {B : Hp}
/-- a new pair at each turn -/
theorem pair_new {B' H' : Hp} {p : Addr} {i : Nat} {v : V} {d : D} (e2 : Ex B' H') (hp : H' p = none) (n : Den c B' v d) : ∃ B'', Ex B' B'' ∧ Ex H' (upd H' p (.tup [.int (i : Nat), v])) ∧ (∀ σ ρ, Rel c σ B' H' ρ → Rel c σ B'' (upd H' p (.tup [.int (i : Nat), v])) ρ) ∧ Den c B'' (.ref p) (.tup [.int (i : Nat), d]) :=
  ⟨upd B' p (.tup [.int (i : Nat), v]), Ex.new (e2.free hp), Ex.new hp, fun σ ρ R => R.newB hp, .tup (.inl (.inl upd_same)) (.cons (.int _) (.cons (n.mono (Ex.new (e2.free hp))) .nil))⟩
theorem serves_enumL {a : Addr} {xs : List V} {ds : List D} (h : B a = some (.lst xs)) (r : Dens c B xs ds) : Serves c (Ite T.K a) B (numbered ds) := by
  intro B' H' e1 e2
  have hs : SqL T.K H' a xs := .inl (.inl (e2 _ _ (e1 _ _ h)))
  refine ⟨fun i hi => ⟨xs, hs, by rw [r.length]; rw [numbered_length] at hi; omega⟩, fun i d hd => ?_⟩
  obtain ⟨d0, hd0, rfl⟩ := numbered_get hd
  obtain ⟨v, hv, n⟩ := r.get hd0
  exact ⟨⟨xs, v, hs, hv⟩, fun x H'' ⟨p, y, ex, hp, eh, hx⟩ => by
    have := hx xs hs
    rw [hv] at this; cases this
    subst ex eh
    exact pair_new e2 hp (n.mono e1)⟩
theorem serves_enumT {a : Addr} {xs : List V} {ds : List D} (h : SqT T.K B a xs) (r : Dens c B xs ds) : Serves c (Ett T.K a) B (numbered ds) := by
  intro B' H' e1 e2
  have hs : SqT T.K H' a xs := e2.sqT (e1.sqT h)
  refine ⟨fun i hi => ⟨xs, hs, by rw [r.length]; rw [numbered_length] at hi; omega⟩, fun i d hd => ?_⟩
  obtain ⟨d0, hd0, rfl⟩ := numbered_get hd
  obtain ⟨v, hv, n⟩ := r.get hd0
  exact ⟨⟨xs, v, hs, hv⟩, fun x H'' ⟨p, y, ex, hp, eh, hx⟩ => by
    have := hx xs hs
    rw [hv] at this; cases this
    subst ex eh
    exact pair_new e2 hp (n.mono e1)⟩
end
theorem li_enum {T : Tx} {W : WX} {t : RE} : ∀ σ H R', liftI T W (iEnumD t) σ H R' → iEnumA T.K (tCons (liftE T W t) tNil) σ H R' := by
  rintro σ H R' ⟨c, B, ρ, x, Q, R, X, h, q⟩
  refine ⟨c, B, ρ, x, _, R, X, h, fun d g ρ1 v B1 H1 h1 e1 k1 R1 t1 => ?_⟩
  obtain ⟨B2, e2, R2, n2⟩ := leak_ok R1 t1
  cases n2 <;> first | exact h1.elim | skip
  case lst a xs ds hs np r => exact ⟨a, xs, rfl, .inl ⟨.inl (.inl (R2.ex _ _ hs)), q _ _ _ B2 H1 h1 (e1.trans e2) k1 R2 fun F => serves_enumL hs (Dens.ent _ _ r)⟩⟩
  case tup a xs ds hs r => exact ⟨a, xs, rfl, .inr ⟨R2.ex.sqT hs, q _ _ _ B2 H1 h1 (e1.trans e2) k1 R2 fun F => serves_enumT hs (Dens.ent _ _ r)⟩⟩
theorem qi_enum {X : Cx} {T : Tx} {W : WX} {e : Expr} {re : RE} {p pos tpos : Pos} {elts : List Expr} {kk : Nat} (hm : X.mg "enumerate" = none) (he : PE X e (liftE T W re)) (hK : X.K = T.K := by rfl) (hg : Gl X "enumerate" := by rfl) (hs : starEach [e] X.env = [(false, eval e X.env)] := by rfl) :
    PI X (.Tuple elts kk tpos) (.Call (.Name "enumerate" p) [e] [] pos) (liftI T W (iEnumD re)) := (pi_enumA hg hm (pa_cons he pa_nil hs) hs).imp (by rw [hK]; exact li_enum)
end Dc
set_option maxHeartbeats 1000000
/-! Data calculus 14: isinstance, texts, reversed lists, dict.get. -/
namespace Dc
open PySem L2 PyProof.Rows PySem.W

/-! ### isinstance -/
/-- which of the plain kinds are of a class -/
structure B7 where
  non : Bool := false
  bl : Bool := false
  int : Bool := false
  str : Bool := false
  lst : Bool := false
  tup : Bool := false
  dic : Bool := false
def kindD (b : B7) (ob : Nat → Option Bool) : D → Option Bool
  | .non => some b.non
  | .bl _ => some b.bl
  | .int _ => some b.int
  | .str _ => some b.str
  | .lst _ => some b.lst
  | .tup _ => some b.tup
  | .dic _ => some b.dic
  | .obj k _ => ob k
  | _ => none
abbrev bTup : B7 := { tup := true }
abbrev bInt : B7 := { int := true, bl := true }
abbrev bBool : B7 := { bl := true }
abbrev bStr : B7 := { str := true }
abbrev noOb : Nat → Option Bool := fun _ => some false
def dIsi (g : D → Option Bool) (te : RE) : RE := fun x ρ Q => te x ρ fun d _ ρ1 => ∃ b, g d = some b ∧ Q (.bl b) .p ρ1
/-- the class that is asked for, as kit's tables know it -/
structure IsF (K : Frag) (T : Tx) (u : Value) (b : B7) (ob : Nat → Option Bool) : Prop where
  non : kitOne K (.type "NoneType") u = some b.non
  bl : kitOne K (.type "bool") u = some b.bl
  int : kitOne K (.type "int") u = some b.int
  str : kitOne K (.type "str") u = some b.str
  lst : kitOne K (.type "list") u = some b.lst
  tup : kitOne K (.type "tuple") u = some b.tup
  dic : kitOne K (.type "dict") u = some b.dic
  o : ∀ k b, ob k = some b → kitOne K (.ref (T.cl k)) u = some b ∧ SlX.SCls K (T.cl k) ∧ SlX.SIsi K (T.cl k)
def rIsiA (K : Frag) (u : Value) : List V → Hp → VK → Prop := fun xs H Q => rIsi K xs H Q ∨ SlX.rIsiSl K u xs H Q
theorem call_isiA {X : Cx} (u : Value) : CallR X (.builtin "isinstance") (rIsiA X.K u) := by
  intro pins s σ H xs us Q I r h
  rcases h with h | h
  · exact call_isi pins s σ H xs us Q I r h
  · exact SlX.call_isiSl u pins s σ H xs us Q I r h
theorem le_isi {T : Tx} {W : WX} {u : Value} {c0 : V} {base : B7} {ob : Nat → Option Bool} {te : RE} (hc : ClsV c0 u) (hf : IsF T.K T u base ob) : ∀ σ H Q', liftE T W (dIsi (kindD base ob) te) σ H Q' → tCB (rIsiA T.K u) (tCons (liftE T W te) (tCons (tC c0) tNil)) σ H Q' := by
  rintro σ H Q' ⟨c, B, ρ, x, Q, R, X, h, q⟩
  refine ⟨c, B, ρ, x, _, R, X, h, fun d g ρ1 v B1 H1 h1 e1 k1 R1 t1 => ?_⟩
  obtain ⟨b, hb, h1⟩ := h1
  have fin : Q' (.bl b) H1 := q _ _ _ _ B1 H1 h1 e1 k1 R1 (.p (.bl b))
  have tm := t1.tm R1
  have go : ∀ {t : String} {b' : Bool}, TyX T.K H1 v (.type t) → some b' = some b → kitOne T.K (.type t) u = some b' → rIsiA T.K u [v, c0] H1 Q' := fun {t b'} ty e hk => .inl ⟨v, c0, _, u, b, rfl, hc, ty, by rw [hk]; exact e, fin⟩
  cases d
  case non => have e := tm.non_; subst e; exact go (.base .non) hb hf.non
  case bl _ => have e := tm.bl_; subst e; exact go (.base (.bl _)) hb hf.bl
  case int _ => have e := tm.int_; subst e; exact go (.base (.int _)) hb hf.int
  case str _ => have e := tm.str_; subst e; exact go (.base (.str _)) hb hf.str
  case lst _ =>
    obtain ⟨a, xs, rfl, h, _⟩ := tm.list R1.ex
    exact go (.base (.lst h)) hb hf.lst
  case tup _ =>
    obtain ⟨a, xs, rfl, h, _⟩ := tm.tuple R1.ex
    refine go ?_ hb hf.tup
    rcases h with (h | ⟨o, h⟩) | ⟨o, _, _, h, hc, _⟩
    · exact .base (.tup h)
    · exact .fTuple h
    · exact .kTuple h hc
  case dic _ =>
    obtain ⟨a, xs, rfl, h, _⟩ := tm.dict R1.ex
    exact go (.base (.dK h)) hb hf.dic
  case obj k os =>
    obtain ⟨a, dx, xs, rfl, h, _⟩ := tm.obj_ R1.ex
    obtain ⟨h1, h2, h3⟩ := hf.o k b hb
    exact .inr ⟨a, _, dx, _, c0, b, rfl, (by cases hc <;> rfl), (fun w r => hc.eq r), h, h2, h3, h1, fin⟩
  all_goals cases hb
section
variable {X : Cx} {T : Tx} {W : WX} {e : Expr} {re : RE} {pos np p : Pos} {base : B7} {ob : Nat → Option Bool}
/-- isinstance(e, T), T a built-in type -/
theorem qe_isiT {n : String} {x : Str} (hf : IsF T.K T (.type n) base ob) (hm : X.mg "isinstance" = none) (hmx : X.mg x = none) (hv : bootBuiltins x = some (.type n)) (he : PE X e (liftE T W re)) (hK : X.K = T.K := by rfl) (hg : Gl X "isinstance" := by rfl) (hgx : Gl X x := by rfl) (hnx : x ≠ "__name__" := by decide) (hdx : (x == ("__debug__" : Str)) = false := by decide)
    (hb : bootBuiltins "isinstance" = some (.builtin "isinstance") := by rfl) (hs1 : starEach (.Name x np :: []) X.env = (false, eval (.Name x np) X.env) :: starEach [] X.env := by rfl) (hs : starEach (e :: [.Name x np]) X.env = (false, eval e X.env) :: starEach [.Name x np] X.env := by rfl)
    (hpl : (backTo pos (starEach [.Name x np] X.env)).any (·.1) = false := by rfl) : PE X (.Call (.Name "isinstance" p) [e, .Name x np] [] pos) (liftE T W (dIsi (kindD base ob) re)) :=
  (pe_callB (call_isiA (.type n)) hg hm hb (pa_cons he (pa_cons (pe_bltn (v := .ty n) hgx hmx hv rfl hnx hdx) pa_nil hs1) hs) (by decide) (by decide) hs hpl).imp (by rw [hK]; exact le_isi (.ty n) hf)
/-- isinstance(e, C), C a class of the text -/
theorem qe_isiC {C : Addr} {x : Str} (hf : IsF T.K T (.ref C) base ob) (hm : X.mg "isinstance" = none) (hmx : X.mg x = some (.ref C)) (he : PE X e (liftE T W re)) (hK : X.K = T.K := by rfl) (hg : Gl X "isinstance" := by rfl) (hgx : Gl X x := by rfl) (hdx : (x == ("__debug__" : Str)) = false := by decide)
    (hb : bootBuiltins "isinstance" = some (.builtin "isinstance") := by rfl) (hs1 : starEach (.Name x np :: []) X.env = (false, eval (.Name x np) X.env) :: starEach [] X.env := by rfl) (hs : starEach (e :: [.Name x np]) X.env = (false, eval e X.env) :: starEach [.Name x np] X.env := by rfl)
    (hpl : (backTo pos (starEach [.Name x np] X.env)).any (·.1) = false := by rfl) : PE X (.Call (.Name "isinstance" p) [e, .Name x np] [] pos) (liftE T W (dIsi (kindD base ob) re)) :=
  (pe_callB (call_isiA (.ref C)) hg hm hb (pa_cons he (pa_cons (pe_glob (v := .ref C) hgx hmx rfl hdx) pa_nil hs1) hs) (by decide) (by decide) hs hpl).imp (by rw [hK]; exact le_isi (.own C) hf)
end

/-! ### f-strings -/
def dFmt (te : RE) : RE := fun x ρ Q => te x ρ fun d _ ρ1 => match d with
  | .str y => y.length ≤ sizeLine ∧ Q (.str y) .p ρ1
  | .int i => i.natAbs.log2 < 1920 ∧ Q (.str (toString i)) .p ρ1
  | _ => False
def dJs : List RE → Str → RE
  | [], acc => fun _ ρ Q => Q (.str acc) .p ρ
  | t :: ts, acc => fun x ρ Q => t x ρ fun d _ ρ1 => match d with
    | .str y => (acc ++ y).length ≤ sizeLine ∧ dJs ts (acc ++ y) x ρ1 Q
    | _ => False
section
variable {T : Tx} {W : WX}
theorem le_fmt {te : RE} : ∀ σ H Q', liftE T W (dFmt te) σ H Q' → tFmt (liftE T W te) σ H Q' := by
  rintro σ H Q' ⟨c, B, ρ, x, Q, R, X, h, q⟩
  refine ⟨c, B, ρ, x, _, R, X, h, fun d g ρ1 v B1 H1 h1 e1 k1 R1 t1 => ?_⟩
  cases d <;> first | exact h1.elim | skip
  case str y => exact .inl ⟨y, (t1.tm R1).str_, h1.1, q _ _ _ _ B1 H1 h1.2 e1 k1 R1 (.p (.str _))⟩
  case int i => exact .inr ⟨i, (t1.tm R1).int_, h1.1, q _ _ _ _ B1 H1 h1.2 e1 k1 R1 (.p (.str _))⟩
theorem le_js : ∀ (ts : List RE) (acc : Str) σ H Q', liftE T W (dJs ts acc) σ H Q' → tJs (ts.map (liftE T W)) acc σ H fun out H1 => Q' (.str out) H1
  | [], acc, σ, H, Q', ⟨c, B, ρ, x, Q, R, X, h, q⟩ => q _ _ _ _ B H h Ex.rfl' ExP.rfl' R (.p (.str _))
  | t :: ts, acc, σ, H, Q', ⟨c, B, ρ, x, Q, R, X, h, q⟩ => by
    refine ⟨c, B, ρ, x, _, R, X, h, fun d g ρ1 v B1 H1 h1 e1 k1 R1 t1 => ?_⟩
    cases d <;> first | exact h1.elim | skip
    case str y => exact ⟨y, (t1.tm R1).str_, h1.1, le_js ts (acc ++ y) σ H1 Q' ⟨c, B1, ρ1, x, Q, R1, X.up e1, h1.2, fun d g ρ' v B' H' hQ e k R' t => q d g ρ' v B' H' hQ (e1.trans e) (k1.trans k) R' t⟩⟩
end
section
variable {X : Cx} {T : Tx} {W : WX} {e : Expr} {re : RE} {pos : Pos}
/-- the parts of an f-string -/
def QJ (X : Cx) (T : Tx) (W : WX) (es : List Expr) (ts : List RE) : Prop := PJ X es (ts.map (liftE T W))
theorem qj_nil : QJ X T W [] [] := .nil
theorem qj_cons {es : List Expr} {ts : List RE} (h : PE X e (liftE T W re)) (r : QJ X T W es ts) : QJ X T W (e :: es) (re :: ts) := .cons h r
theorem qe_fmt (he : PE X e (liftE T W re)) : PE X (.FormattedValue e (-1) none pos) (liftE T W (dFmt re)) := (pe_fmt he).imp le_fmt
theorem qe_js {v1 v2 : Expr} {rest : List Expr} {ts : List RE} (h : QJ X T W (v1 :: v2 :: rest) ts) : PE X (.JoinedStr (v1 :: v2 :: rest) pos) (liftE T W (dJs ts Str.empty)) := (pe_joined h).imp (le_js ts Str.empty)
theorem qe_js1 (h : PE X e (liftE T W re)) : PE X (.JoinedStr [e] pos) (liftE T W re) := pe_joined1 h
end

/-! ### methods of texts -/
def isStrD : D → Prop
  | .str _ => True
  | _ => False
def dM1 (f : FM) (to te : RE) : RE := fun x ρ Q => to x ρ fun d1 _ ρ1 => isStrD d1 ∧ te x ρ1 fun d2 _ ρ2 => f d1 [d2] fun d g => Q d g ρ2
theorem le_m1 {T : Tx} {W : WX} {f : FM} {to te : RE} : ∀ σ H Q', liftE T W (dM1 f to te) σ H Q' → tM1 (rMD T f) (liftE T W to) (liftE T W te) σ H Q' := by
  rintro σ H Q' ⟨c, B, ρ, x, Q, R, X, h, q⟩
  refine ⟨c, B, ρ, x, _, R, X, h, fun d g ρ1 v B1 H1 h1 e1 k1 R1 t1 => ?_⟩
  obtain ⟨hs, h1⟩ := h1
  cases d <;> first | exact hs.elim | skip
  case str a =>
    refine ⟨⟨a, (t1.tm R1).str_⟩, c, B1, ρ1, x, _, R1, X.up e1, h1, fun d2 g2 ρ2 v2 B2 H2 h2 e2 k2 R2 t2 => ?_⟩
    refine ⟨c, B2, _, _, _, R2.ex, (t1.tm R1).mono e2 k2, .cons (t2.tm R2) .nil, h2, fun d g v H' hq r => ?_⟩
    exact res_to R2 (fun d g ρ' v B' H' hQ e k R' t => q d g ρ' v B' H' hQ ((e1.trans e2).trans e) ((k1.trans k2).trans k) R' t) hq r
def mSplit : FM
  | .str a, [.str b], k => (b.length == 0) = false ∧ a.length + 2 ≤ sizeLine ∧ k (.lst ((Txt.split a b).map D.str)) .f
  | _, _, _ => False
def mJoin : FM
  | .str a, [.lst ds], k => ∃ ys : List Str, ds = ys.map D.str ∧ (ys.map (·.length)).sum + ys.length * a.length ≤ 16777216 ∧ k (.str (Txt.join a ys)) .p
  | .str a, [.tup ds], k => ∃ ys : List Str, ds = ys.map D.str ∧ (ys.map (·.length)).sum + ys.length * a.length ≤ 16777216 ∧ k (.str (Txt.join a ys)) .p
  | _, _, _ => False
def mPart : FM
  | .str a, [.str b], k => (b.length == 0) = false ∧ a.length ≤ sizeLine ∧ k (.tup [.str (Txt.partition a b).1, .str (Txt.partition a b).2.1, .str (Txt.partition a b).2.2]) .p
  | _, _, _ => False
section
variable {X : Cx} {T : Tx}
theorem two_str {c : Dx T} {B H : Hp} {v : V} {xs : List V} {a b : Str} (t : Tm c B H v (.str a)) (r : Tms c B H xs [.str b]) : v = .str a ∧ xs = [.str b] := ⟨t.str_, one_str r⟩
theorem Dens.strsOf {c : Dx T} {B : Hp} {xs : List V} {ds : List D} {ns : List Str} (r : Dens c B xs ds) (e : ds = ns.map D.str) : xs = ns.map V.str := by subst e; exact r.toStrs
theorem mtd_split : MtR X "str.split" (rMD T mSplit) := by
  rintro pins s σ H x xs v us Q I rx rxs ⟨c, B, d1, ds, k, ex, t, r, h, q⟩
  unfold mSplit at h
  split at h
  · obtain ⟨e1, e2⟩ := two_str t r
    subst e1 e2
    exact mt_split pins s σ H _ _ v us Q I rx rxs ⟨_, _, rfl, rfl, h.1, h.2.1, fun p hp => q _ _ _ _ h.2.2 (Res.newL ex hp (Dens.strs _))⟩
  · exact h.elim
theorem mtd_part : MtR X "str.partition" (rMD T mPart) := by
  rintro pins s σ H x xs v us Q I rx rxs ⟨c, B, d1, ds, k, ex, t, r, h, q⟩
  unfold mPart at h
  split at h
  · obtain ⟨e1, e2⟩ := two_str t r
    subst e1 e2
    exact mt_partition pins s σ H _ _ v us Q I rx rxs ⟨_, _, rfl, rfl, h.1, h.2.1, fun p hp => q _ _ _ _ h.2.2 (Res.newT ex hp (.cons (.str _) (.cons (.str _) (.cons (.str _) .nil))))⟩
  · exact h.elim
theorem mtd_join (hK : X.K = T.K := by rfl) : MtR X "str.join" (rMD T mJoin) := by
  rintro pins s σ H x xs v us Q I rx rxs ⟨c, B, d1, ds, k, ex, t, r, h, q⟩
  unfold mJoin at h
  split at h
  · have e1 := t.str_; subst e1
    obtain ⟨a, vs, rfl, h1, r⟩ := one_list ex r
    obtain ⟨ys, e, hz, h⟩ := h
    exact mt_join pins s σ H _ _ v us Q I rx rxs ⟨_, a, ys, rfl, rfl, .inl (by rw [← r.strsOf e]; exact .inl (.inl h1)), hz, q _ _ _ _ h (Res.str _)⟩
  · have e1 := t.str_; subst e1
    obtain ⟨a, vs, rfl, h1, r, _⟩ := one_tup ex r
    obtain ⟨ys, e, hz, h⟩ := h
    exact mt_join pins s σ H _ _ v us Q I rx rxs ⟨_, a, ys, rfl, rfl, .inr (by rw [← r.strsOf e, hK]; exact h1), hz, q _ _ _ _ h (Res.str _)⟩
  · exact h.elim
variable {W : WX} {o e : Expr} {ro re : RE} {apos pos : Pos}
theorem qe_m1 {id : String} {name : Str} {f : FM} (slot : Slot "str" name id) (ty : typeOf (.builtin id) = pure (.type "method_descriptor")) (rule : MtR X id (rMD T f)) (ho : PE X o (liftE T W ro)) (he : PE X e (liftE T W re))
    (hs : starEach [e] X.env = [(false, eval e X.env)] := by rfl) (hbase : attributeBase o name X.env (eval o X.env) = eval o X.env := by rfl) (hline : (apos.endLine == pos.line) = true := by rfl) :
    PE X (.Call (.Attribute o name apos) [e] [] pos) (liftE T W (dM1 f ro re)) := (pe_m1 slot ty rule ho he hs hbase hline).imp le_m1
theorem qe_split (ho : PE X o (liftE T W ro)) (he : PE X e (liftE T W re)) (hs : starEach [e] X.env = [(false, eval e X.env)] := by rfl) (hbase : attributeBase o "split" X.env (eval o X.env) = eval o X.env := by rfl) (hline : (apos.endLine == pos.line) = true := by rfl) :
    PE X (.Call (.Attribute o "split" apos) [e] [] pos) (liftE T W (dM1 mSplit ro re)) := qe_m1 PySem.F.slot_str_split PySem.F.type_str_split mtd_split ho he hs hbase hline
theorem qe_part (ho : PE X o (liftE T W ro)) (he : PE X e (liftE T W re)) (hs : starEach [e] X.env = [(false, eval e X.env)] := by rfl) (hbase : attributeBase o "partition" X.env (eval o X.env) = eval o X.env := by rfl) (hline : (apos.endLine == pos.line) = true := by rfl) :
    PE X (.Call (.Attribute o "partition" apos) [e] [] pos) (liftE T W (dM1 mPart ro re)) := qe_m1 PySem.F.slot_str_partition PySem.F.type_str_partition mtd_part ho he hs hbase hline
theorem qe_join (ho : PE X o (liftE T W ro)) (he : PE X e (liftE T W re)) (hK : X.K = T.K := by rfl) (hs : starEach [e] X.env = [(false, eval e X.env)] := by rfl) (hbase : attributeBase o "join" X.env (eval o X.env) = eval o X.env := by rfl) (hline : (apos.endLine == pos.line) = true := by rfl) :
    PE X (.Call (.Attribute o "join" apos) [e] [] pos) (liftE T W (dM1 mJoin ro re)) := qe_m1 PySem.F.slot_str_join PySem.F.type_str_join (mtd_join hK) ho he hs hbase hline
end

/-! ### xs[::-1], d.get(k, x) -/
def dRev (te : RE) : RE := fun x ρ Q => te x ρ fun d _ ρ1 => match d with
  | .lst ds => Q (.lst ds.reverse) .f ρ1
  | _ => False
def dGet2 (td ty tx : RE) : RE := fun x ρ Q => td x ρ fun d _ ρ1 => match d with
  | .dic kvs => ty x ρ1 fun b _ ρ2 => tx x ρ2 fun e g ρ3 => ∃ key, toKey b = some key ∧ match valD kvs key with
    | some d => Q d .p ρ3
    | none => Q e g ρ3
  | _ => False
section
variable {T : Tx} {W : WX}
theorem le_rev {te : RE} : ∀ σ H Q', liftE T W (dRev te) σ H Q' → tRevL T.K (liftE T W te) σ H Q' := by
  rintro σ H Q' ⟨c, B, ρ, x, Q, R, X, h, q⟩
  refine ⟨c, B, ρ, x, _, R, X, h, fun d g ρ1 v B1 H1 h1 e1 k1 R1 t1 => ?_⟩
  cases d <;> first | exact h1.elim | skip
  case lst ds =>
    obtain ⟨a, xs, rfl, h2, r⟩ := (t1.tm R1).list R1.ex
    exact ⟨a, xs, rfl, .inl (.inl h2), fun p hp => res_to R1 (fun d g ρ' v B' H' hQ e k R' t => q d g ρ' v B' H' hQ (e1.trans e) (k1.trans k) R' t) h1 (Res.newL R1.ex hp r.reverse)⟩
theorem le_get2 {td ty tx : RE} : ∀ σ H Q', liftE T W (dGet2 td ty tx) σ H Q' → tDGet2 (liftE T W td) (liftE T W ty) (liftE T W tx) σ H Q' := by
  rintro σ H Q' ⟨c, B, ρ, x, Q, R, X, h, q⟩
  refine ⟨c, B, ρ, x, _, R, X, h, fun d g ρ1 v B1 H1 h1 e1 k1 R1 t1 => ?_⟩
  cases d <;> first | exact h1.elim | skip
  case dic kvs =>
    have tm := t1.tm R1
    obtain ⟨a, xs, rfl, h2, r⟩ := tm.dict R1.ex
    refine ⟨a, rfl, .inl ⟨xs, .inl h2⟩, c, B1, ρ1, x, _, R1, X.up e1, h1, fun b gb ρ2 w B2 H2 h2 e2 k2 R2 t2 => ⟨c, B2, ρ2, x, _, R2, X.up (e1.trans e2), h2, fun e ge ρ3 z B3 H3 h3 e3 k3 R3 t3 => ?_⟩⟩
    obtain ⟨key, ek, h3⟩ := h3
    have ew := (t2.tm R2).key ek; subst ew
    obtain ⟨a', xs', ea, h4, r4⟩ := (tm.mono (e2.trans e3) (k2.trans k3)).dictR R3.ex
    cases ea
    refine ⟨_, .inl ⟨xs', key, h4, rfl, rfl⟩, ?_⟩
    rcases r4.val key with ⟨z1, z2⟩ | ⟨v', d', z1, z2, n⟩
    · rw [z2] at h3; rw [z1]
      exact q _ _ _ _ B3 H3 h3 ((e1.trans e2).trans e3) ((k1.trans k2).trans k3) R3 t3
    · rw [z2] at h3; rw [z1]
      exact q _ _ _ _ B3 H3 h3 ((e1.trans e2).trans e3) ((k1.trans k2).trans k3) R3 (.p n)
variable {X : Cx} {e o f : Expr} {re ro rf : RE} {pos apos cpos : Pos}
theorem qe_rev {k : Nat} {p1 p2 p3 : Pos} (he : PE X e (liftE T W re)) (hK : X.K = T.K := by rfl) : PE X (.Subscript e (.Slice none none (some (.UnaryOp .USub (.Constant (.int 1) k p1) p2)) p3) pos) (liftE T W (dRev re)) := (pe_revL he).imp (by rw [hK]; exact le_rev)
theorem qe_get2 {n : Nat} (hr : Room n X.A) (ho : PE X o (liftE T W ro)) (he : PE X e (liftE T W re)) (hf : PE X f (liftE T W rf)) (hbase : attributeBase o "get" X.env (eval o X.env) = eval o X.env := by rfl)
    (hfew : ((backTo cpos (starEach [e, f] X.env)).all (fun x => !x.1) && (backToKw cpos (keywordEach [] X.env)).all (fun x => x.1.isSome)
      && decide (([e, f] : List Expr).length + ([] : List Keyword).length + (if ([] : List Keyword).isEmpty then 0 else 1) < 30)) = true := by rfl)
    (hline : (apos.endLine == cpos.line) = true := by rfl) (ht : backTo cpos (starEach [e, f] X.env) = [(false, eval e X.env), (false, eval f X.env)] := by rfl) :
    PE X (.Call (.Attribute o "get" apos) [e, f] [] cpos) (liftE T W (dGet2 ro re rf)) := (pe_dget2 (by have := hr.units; omega) ho he hf ⟨hbase, hfew, hline, ht⟩).imp le_get2
end
end Dc
set_option maxHeartbeats 1000000
/-! Data calculus 15: the end of a law, its turns, its draws. -/
namespace Dc
open PySem L2 PyProof.Rows PySem.W

/-! ### the end -/
/-- what a law's own def promises of its script -/
def lawS (n : Nat) : Sps := fun ds Qd _ => ∃ ns : List Int, ds = [.scr ns] ∧ ns.length ≤ n ∧ (∀ z ∈ ns, Builtin.Int.intBits z ≤ 1048576) ∧ Qd (.bl true) false
/-- the call of the law's def, nothing else being tracked but the script -/
theorem end_call {P : Program} {w : World} {T : Tx} {mg mb : Str → Option Value} {k n : Nat} {fa a : Addr} {fd : FuncData} {x : Str} {s1 : Shared} {vs : List Value} {ns : List Int}
    (KX : T.K.In s1.heap) (hns : s1.heap.Ns mainGlobals mg) (hb : s1.heap.Ns builtinsNs mb) (hbb : ∀ x : Str, x ≠ "__name__" → mb x = bootBuiltins x) (hlim : s1.heap.NoLimit) (hg : s1.gens = #[])
    (ha : s1.heap.get? a = some { cls := .type "list", data := .seq vs.toArray }) (hi : IntsAre vs ns) (hl : ns.length ≤ n) (hn : n ≤ sizeLine) (hbits : ∀ z ∈ ns, Builtin.Int.intBits z ≤ 1048576) (hr : Room k callerA)
    (F : ∀ base : Heap, T.K.In base → base.Ns mainGlobals mg → FnG P w T.K mg base k fa fd [x] (spD T 1 (lawS n))) (hbind : ∀ (s : Shared) (u : Value), BindsTo s fd ⟨[u], []⟩ [(x, u)]) :
    codeAny (model P w) callerA (.call (.ref fa) ⟨[.ref a], []⟩) (fun r s' => r = .ok (.ret (.bool true)) ∧ OldK s1.heap s'.heap ∧ s'.os = s1.os ∧ AllBare s'.gens) s1 := by
  have rv := vals_ints hi
  have lenV := hi.length
  have hz : ns.length ≤ sizeLine := Nat.le_trans hl hn
  -- a heap that tells of the script alone, or of nothing
  suffices core : ∃ H : Hp, (∀ b u, H b = some u → b = a ∧ u = .frz { cls := .type "list", data := .seq vs.toArray } (.lst (ns.map V.int)) ∧ T.K.lookup a = none) ∧ SqL T.K H a (ns.map V.int) ∧ HOk P w H s1.heap by
    obtain ⟨H, only, hS, hok⟩ := core
    have free : ∀ {b : Addr} {o : Obj}, s1.heap.get? b = some o → (b = a → T.K.lookup a = none → False) → H b = none := fun {b o} e h => by
      cases q : H b with
      | none => rfl
      | some u =>
        obtain ⟨e1, _, e3⟩ := only b u q
        exact (h e1 e3).elim
    have nsB : ∀ {b : Addr} {m : Str → Option Value}, s1.heap.Ns b m → (hidT s1.heap H).Ns b m := fun {b m} ⟨o, es, ep, e, d, r⟩ => ⟨o, es, ep, hidT_get e (free e fun eb _ => by
      subst eb
      rw [ha] at e; cases e
      cases (show Data.seq vs.toArray _ = Data.dict es ep from d)), d, r⟩
    have inB : T.K.In (hidT s1.heap H) := fun b o e => hidT_get (KX b o e) (free (KX b o e) fun eb hk => by subst eb; rw [hk] at e; cases e)
    have hM : Mod T.K mg (hidT s1.heap H) := ⟨inB, nsB hns, ⟨mb, nsB hb, hbb⟩, let ⟨mc, h1, h2⟩ := hlim; ⟨mc, nsB h1, h2⟩⟩
    have e0 : Env0 P w T.K mg (hidT s1.heap H) callerA [] s1 H := ⟨rfl, hM, fun b o e => of_hidT e, Nat.le_of_eq (hidT_size _ _), trivial, fun b hb => absurd (show b ∈ ([] : List Addr) from hb) (by simp), hok, .of_eq hg⟩
    have want : spD T 1 (lawS n) [.ref a] H (fun v _ => v = .bl true) fun _ _ _ => False := by
      refine ⟨⟨none, H, fun _ => False⟩, H, [.scr ns], fun d _ => d = .bl true, fun _ => False, rfl, ⟨Ex.rfl', fun _ z => (nomatch z), fun _ z => z.elim⟩, .cons (.scr hS) .nil, rfl, ⟨ns, rfl, hl, hbits, rfl⟩, fun d o v B' H' hd _ _ _ ro => ?_, fun _ _ _ _ _ z => z.elim⟩
      subst hd
      cases ro with
      | p h => cases h; rfl
      | f _ h => cases h
    refine codeAny_mono ((F _ inB (nsB hns)).run callerA [] s1 H ⟨[.ref a], []⟩ [.ref a] [.ref a] _ _ hr rfl e0 (hbind s1 (.ref a)) (.cons rfl .nil) want) fun r s' h => ?_
    cases r with
    | error e =>
      obtain ⟨_, _, _, _, _, _, _, _, _, _, _, _, z⟩ := h
      exact z.elim
    | ok fl =>
      cases fl with
      | next => exact False.elim h
      | brk => exact False.elim h
      | cont => exact False.elim h
      | ret u =>
        obtain ⟨v, H', os, bare, un, hok', r', q⟩ := h
        have q' : v = .bl true := q
        subst q'
        obtain rfl : u = Value.bool true := r'
        refine ⟨rfl, OldK.of_keep fun b o e => ?_, os, bare⟩
        cases q : H b with
        | none => exact un.keep b o e q (by intro z; exact absurd (show b ∈ ([] : List Addr) from z) (by simp)) (by simp)
        | some u =>
          obtain ⟨_, rfl, _⟩ := only b u q
          obtain ⟨e1, _⟩ := hok b _ q
          obtain ⟨e2, _⟩ := hok' b _ (un.frzs b _ _ q)
          rw [e] at e1; cases e1
          exact e2
  cases hk : T.K.lookup a with
  | some o =>
    have e := KX a o hk
    rw [ha] at e
    cases e
    exact ⟨fun _ => none, fun b u z => (nomatch z), .inr ⟨_, vs.toArray, _, hk, rfl, rfl, rfl, by rw [List.size_toArray, lenV]; exact hz, by simpa using rv⟩, fun b u z => by cases (show (none : Option HO) = some u from z)⟩
  | none =>
    refine ⟨fun b => if b = a then some (.frz { cls := .type "list", data := .seq vs.toArray } (.lst (ns.map V.int))) else none, fun b u z => ?_, .inl (.inr ⟨{ cls := .type "list", data := .seq vs.toArray }, if_pos rfl⟩), fun b u z => ?_⟩
    · by_cases eb : b = a
      · have z' := (if_pos eb).symm.trans z
        exact ⟨eb, (Option.some.inj z').symm, rfl⟩
      · cases (if_neg eb).symm.trans z
    · by_cases eb : b = a
      · have z' := (if_pos eb).symm.trans z
        cases z'
        subst eb
        exact ⟨ha, by rw [List.length_map]; exact hz, vs, _, rv, ha⟩
      · cases (if_neg eb).symm.trans z
theorem walk_G {l : OpenLaw} {n k : Nat} {q : Program} {loose : List Str} {XP : (Str → Option Value) → Heap → Prop} {YP : World → Heap → Prop} {d : DefRec} {K : Params → Frag} {x : Str}
    (hn : l.most = some n) (hn2 : n ≤ sizeLine) (hdf : d.params.defaults = []) (hr : Room k callerA) (hY : ∀ (w : World) (h : Heap), YP w h → (K w.params).In h)
    (F : ∀ (w : World) (mg : Str → Option Value) (fa : Addr) (h : Heap), (K w.params).In h → h.Ns mainGlobals mg → mg d.name = some (.ref fa) →
      ∃ (T : Tx) (fd : FuncData), T.K = K w.params ∧ (∀ (s : Shared) (u : Value), BindsTo s fd ⟨[u], []⟩ [(x, u)]) ∧ ∀ base : Heap, T.K.In base → base.Ns mainGlobals mg → FnG l.prog w T.K mg base k fa fd [x] (spD T 1 (lawS n))) :
    WalkO q loose XP YP l.row.toRowW d [] (fun f vs => PySem.call f vs) := by
  refine Att.attach_callB hn hdf fun w s₀ s₁ mg mb fa o pm cd doc a vs ns G Y ho hd hcd hmg hobj hints hlen hbits hg => ?_
  have KX := hY w _ Y
  obtain ⟨T, fd, hK, hb, hF⟩ := F w mg fa _ KX G.T.g hmg
  exact end_call (by rw [hK]; exact KX) G.T.g G.T.b G.T.builtins G.T.nolimit hg hobj hints hlen hn2 hbits hr hF hb

/-! ### a turn: the pail is made and handed to the def that judges -/
def rightS : Sps := fun ds Qd _ => ds = [.ptr] ∧ Qd (.bl true) false
def dTurn (pl : Int → Int → Int → Prop) (n : Nat) (sp : Sps) (rb : RA) : RE := fun x ρ Q => rb x ρ fun ds ρ1 => ds.length = n ∧ sp ds (fun d o => o = true ∧ (∃ i j k : Int, d = .lst [.int i, .int j, .int k] ∧ pl i j k) ∧ Q (.bl true) .p ρ1) (fun _ => False)
theorem le_turn {T : Tx} {W : WX} {n : Nat} {sp : Sps} {rb : RA} : ∀ σ H Q', liftE T W (dTurn T.pl n sp rb) σ H Q' → tCallS (spD T 1 rightS) (WE W) (tPos 1 (tCons (tCallS (spD T n sp) (WE W) (liftA T W rb)) tNil)) σ H Q' := by
  rintro σ H Q' ⟨c, B, ρ, x, Q, R, X, h, q⟩
  refine ⟨c, B, ρ, x, _, R, X, h, fun ds ρ1 vs B1 H1 h1 e1 k1 R1 t1 => ?_⟩
  refine ⟨callee c σ H1 ρ1, B1, ds, _, _, rfl, callee_hold R1, Dens.to (c := c) (c' := callee c σ H1 ρ1) rfl t1, h1.1, h1.2, fun d o v B2 H2 hq e2 k2 ho2 r2 => ?_, fun e cls dd B' H' hx _ _ _ _ => hx.elim⟩
  obtain ⟨rfl, ⟨i, j, k, rfl, hp⟩, hQ⟩ := hq
  cases r2 with
  | @f a _ m ow =>
    cases ow with
    | @lst xs _ ha rs =>
      cases rs with
      | cons n1 rs =>
        cases rs with
        | cons n2 rs =>
          cases rs with
          | cons n3 rs =>
            cases rs; cases n1; cases n2; cases n3
            have na : H1 a = none := m.h
            let F2 : Addr → Prop := fun b => c.fb b ∨ (∃ (i : Nat) (d : D), σ[i]? = some (some (V.ref b)) ∧ ρ1[i]? = some (Sl.own d)) ∨ c.pa = some b
            let c2 : Dx T := ⟨some a, H2, F2⟩
            -- what stood at the first call stands
            have keep2 : ∀ b o, H1 b = some o → c.pa ≠ some b → H2 b = some o := fun b o hb hn => k2 b o hn hb
            have fbs : ∀ b, F2 b → (∃ o, H2 b = some o) ∧ B2 b = none ∧ b ≠ a ∧ ∃ o, H1 b = some o := fun b hb => by
              rcases hb with hb | hb | hb
              · obtain ⟨s1, s2, s3⟩ := ho2.fb b (.inl hb)
                obtain ⟨⟨o, ho⟩, _⟩ := R1.fb b hb
                exact ⟨s1, s2, ne_of_none ho na, o, ho⟩
              · obtain ⟨i, d, w1, w2⟩ := hb
                obtain ⟨s1, s2, s3⟩ := ho2.fb b (.inr ⟨i, d, w1, w2⟩)
                obtain ⟨m1, o1⟩ := R1.ownB w1 w2
                obtain ⟨o, ho⟩ := o1.there
                exact ⟨s1, s2, ne_of_none ho na, o, ho⟩
              · obtain ⟨z1, x1, y1, w1, hx, r⟩ := ho2.pail b hb
                obtain ⟨_, x2, y2, w2, hx2, _⟩ := R1.pail b hb
                exact ⟨⟨_, hx⟩, z1, ne_of_none hx2 na, _, hx2⟩
            have hold : Hold c2 B2 H2 := ⟨ho2.ex, fun b hb => by
              cases hb
              exact ⟨m.b, i, j, k, ha, hp⟩, fun b hb => by
              obtain ⟨s1, s2, s3, _⟩ := fbs b hb
              exact ⟨s1, s2, fun z => s3 (Option.some.inj z).symm⟩⟩
            refine ⟨rfl, c2, B2, [.ptr], fun d _ => d = .bl true, fun _ => False, rfl, hold, .cons (.ptr rfl) .nil, rfl, ⟨rfl, rfl⟩, fun d o v B3 H3 hd e3 k3 ho3 r3 => ?_, fun _ _ _ _ _ z => z.elim⟩
            subst hd
            have ev : v = .bl true := by
              cases r3 with
              | p h => cases h; rfl
              | f _ h => cases h
            subst ev
            have step : ∀ b o, b ≠ a → H2 b = some o → H3 b = some o := fun b o hb h => k3 b o (fun z => hb (Option.some.inj z).symm) h
            have kp : ExP c H1 H3 := fun b o hn hb => step b o (ne_of_none hb na) (keep2 b o hb hn)
            have R3 : Rel c σ B3 H3 ρ1 := by
              refine R1.grow (e2.trans e3) ho3.ex kp (fun b hb => ?_) (fun b d i w1 w2 => (ho3.fb b (.inr (.inl ⟨i, d, w1, w2⟩))).2.1) (fun b hb => (ho3.fb b (.inl hb)).2.1)
              obtain ⟨z1, x1, y1, w1, hx, r⟩ := ho2.pail b hb
              exact ⟨(ho3.fb b (.inr (.inr hb))).2.1, x1, y1, w1, step b _ (fbs b (.inr (.inr hb))).2.2.1 hx, r⟩
            exact q _ _ _ _ B3 H3 hQ (e1.trans (e2.trans e3)) (k1.trans kp) R3 (.p (.bl true))
theorem qe_turn {X : Cx} {T : Tx} {W : WX} {k k' n n' : Nat} {f f' : Addr} {fd fd' : FuncData} {ps ps' ks : List Str} {sp : Sps} {x x' : Str} {np np' pos pos' : Pos} {es : List Expr} {rs : RA}
    (F : FnG X.prog X.w X.K X.mg X.base k f fd ps (spD T 1 rightS)) (hr : Room k X.A) (hgu : X.A.guards = some []) (hm : X.mg x = some (.ref f)) (hk : keepIn X.K (.ref f) = true) (hb : KB X.K fd ps 1 [])
    (F' : FnG X.prog X.w X.K X.mg X.base k' f' fd' ps' (spD T n sp)) (hr' : Room k' X.A) (hm' : X.mg x' = some (.ref f')) (hk' : keepIn X.K (.ref f') = true) (hb' : KB X.K fd' ps' n' ks)
    (tk : Takes X W) (ha : PCs X es [] pos' n' ks (liftA T W rs)) (hg : Gl X x := by rfl) (hdb : (x == ("__debug__" : Str)) = false := by decide) (hg' : Gl X x' := by rfl) (hdb' : (x' == ("__debug__" : Str)) = false := by decide)
    (hs : starEach (.Call (.Name x' np') es [] pos' :: []) X.env = (false, eval (.Call (.Name x' np') es [] pos') X.env) :: starEach [] X.env := by rfl) (hpl : (backTo pos (starEach [] X.env)).any (·.1) = false := by rfl) :
    PE X (.Call (.Name x np) [.Call (.Name x' np') es [] pos'] [] pos) (liftE T W (dTurn T.pl n sp rs)) :=
  (pe_fG F hr hgu hm hk hb tk (pcs_pos (pa_cons (pe_fG F' hr' hgu hm' hk' hb' tk ha hg' hdb') pa_nil hs) hs hpl) hg hdb).imp le_turn
end Dc
set_option maxHeartbeats 1000000
/-! Data calculus 16: draws. -/
namespace Dc
open PySem L2 PyProof.Rows PySem.W

def pailP (x y z : Int) : Prop := 0 ≤ x ∧ 0 ≤ y ∧ y < 2147483648 ∧ 0 ≤ z
def wellP (x y z : Int) : Prop := 0 ≤ x ∧ x < 2147483648 ∧ 0 ≤ y ∧ 0 ≤ z
/-- a draw: any of so many -/
def castS : Sps := fun ds Qd _ => ∃ m : Int, ds = [.ptr, .int m] ∧ 0 < m ∧ m < 1073741824 ∧ ∀ r : Int, 0 ≤ r → r < m → Qd (.int r) false
abbrev aI (K : Frag) (i : Int) : TE := tOp (rIxL K) (tVar 0) (tC (.int i))
abbrev rAddI : R2 := rI0 fun i j => .int (i + j)
abbrev rMulI : R2 := rI CMul fun i j => .int (i * j)
abbrev rModI : R2 := rI (fun _ j => 0 < j) fun i j => .int (i % j)
abbrev rDivI : R2 := rI CDiv fun i j => .int (i / j)
abbrev rIntI : List V → Hp → VK → Prop := fun xs H Q => (∃ i, xs = [.int i] ∧ Q (.int i) H) ∨ ∃ k, xs = [.bl k] ∧ Q (.int (if k then 1 else 0)) H
abbrev rDmI : List V → Hp → VK → Prop := fun xs H Q => ∃ i j, xs = [.int i, .int j] ∧ CDivP i j ∧ ∀ p, H p = none → Q (.ref p) (upd H p (.tup [.int (i / j), .int (i % j)]))
abbrev gP (i : Int) : TG := gSub (tVar 0) (tC (.int i)) rSetL
abbrev tI1 (t : TE) : TE := tCB rIntI (tCons t tNil)
abbrev cI (i : Int) : TE := tC (.int i)
/-- if o[i] > 0: o[i], name = divmod(o[i], many); return name -/
abbrev castHead (K : Frag) (i : Int) (j : Nat) : TS := tIfS (tTest (tOp (rI0 fun i j => .bl (decide (j < i))) (aI K i) (cI 0))) (tSeq (tAsg (tCB rDmI (tCons (aI K i) (tCons (tVar 1) tNil))) (gTup K 2 (gCons (gP i) (gCons (gName j) gNil)))) (tSeq (tRet (tVar j)) tNext)) tNext
abbrev castT (K : Frag) : TS := tSeq (castHead K 0 2)
  (tSeq (tAsg (tOp rAddI (aI K 2) (cI 1)) (gP 2))
  (tSeq (tAsg (tOp rModI (tI1 (tOp rAddI (tOp rAddI (tOp rMulI (aI K 1) (tOp rAddI (cI 36809) (tOp rMulI (cI 2) (aI K 2)))) (tOp rMulI (cI 5303) (aI K 2))) (cI 7))) (cI 2147483629)) (gName 3))
  (tSeq (tAsg (tOp rModI (tI1 (tOp rAddI (tOp rAddI (tOp rMulI (tVar 3) (cI 45413)) (tOp rMulI (cI 3) (aI K 2))) (cI 1))) (cI 2147483587)) (gP 1))
  (tSeq (tRet (tOp rModI (tI1 (tOp rDivI (aI K 1) (cI 256))) (tVar 1))) tNext))))
abbrev drawT (K : Frag) : TS := tSeq (castHead K 2 2)
  (tSeq (tAsg (tOp rAddI (aI K 1) (cI 1)) (gP 1))
  (tSeq (tAsg (tI1 (aI K 0)) (gName 3))
  (tSeq (tAsg (tOp rModI (tI1 (tOp rAddI (tOp rAddI (tOp rMulI (tVar 3) (cI 44017)) (tOp rMulI (aI K 1) (cI 52009))) (cI 53))) (cI 2147483629)) (gP 0))
  (tSeq (tRet (tOp rModI (tI1 (tOp rDivI (aI K 0) (cI 2048))) (tVar 1))) tNext))))
/-- behind a store into the pail -/
def After (H H' : Hp) (a : Addr) (xs : List V) : Prop := H' a = some (.lst xs) ∧ ∀ b o, b ≠ a → H b = some o → H' b = some o
theorem After.put {H : Hp} {a : Addr} {xs ys : List V} {H1 : Hp} (h : After H H1 a xs) : After H (upd H1 a (.lst ys)) a ys := ⟨upd_same, fun b o n e => by rw [upd_ne n]; exact h.2 b o n e⟩
section
variable {K : Frag} {a : Addr} {m : Int} {D : Ends} {H : Hp}
theorem small_l {i j : Int} (h1 : -1000000 < i) (h2 : i < 4294967296) : CMul i j := .inl ⟨Int.lt_trans (by decide) h1, Int.lt_trans h2 (by decide)⟩
theorem small_r {i j : Int} (h1 : -1000000 < j) (h2 : j < 4294967296) : CMul i j := .inr ⟨Int.lt_trans (by decide) h1, Int.lt_trans h2 (by decide)⟩
theorem divp_small {i j : Int} (h1 : 0 < j) (h2 : j < 1073741824) : CDivP i j := ⟨h1, PyProof.noPylong_small (by omega)⟩
theorem mod_lt {r m : Int} (h : 0 < m) : 0 ≤ r % m ∧ r % m < m := ⟨Int.emod_nonneg _ (by omega), Int.emod_lt_of_pos _ h⟩
/-- the pail's first ints are used up first -/
theorem castHead_ok {i : Int} {k : Nat} {xs : List V} {x : Int} {w1 w2 : Option V} (hH : H a = some (.lst xs)) (hi : ixN xs.length i = some k) (hk : xs[k]? = some (.int x)) (hm : 0 < m) (hm2 : m < 1073741824)
    (h1 : 0 < x → ∀ H', After H H' a (xs.set k (.int (x / m))) → D.rt (.int (x % m)) H') (h2 : ¬ 0 < x → D.nx [some (.ref a), some (.int m), w1, w2] H) : castHead K i 2 D [some (.ref a), some (.int m), w1, w2] H := by
  have hat : atI xs i = some (.int x) := by unfold atI; rw [hi]; exact hk
  refine ⟨.ref a, rfl, a, xs, i, .int x, rfl, rfl, .inl (.inl hH), hat, x, 0, rfl, rfl, decide (0 < x), rfl, ?_⟩
  by_cases hx : 0 < x
  · rw [decide_eq_true hx]
    refine L2.iteT ?_
    refine ⟨.ref a, rfl, a, xs, i, .int x, rfl, rfl, .inl (.inl hH), hat, .int m, rfl, x, m, rfl, divp_small hm hm2, fun p hp => ?_⟩
    have ne : a ≠ p := ne_of_none hH hp
    refine ⟨p, _, rfl, .inl (.inl upd_same), rfl, .int (x / m), _, rfl, .ref a, rfl, a, xs, i, k, rfl, rfl, by rw [upd_ne ne]; exact hH, hi, .int (x % m), _, rfl, rfl, ?_⟩
    refine ⟨.int (x % m), rfl, h1 hx _ ⟨upd_same, fun b o n e => ?_⟩⟩
    rw [upd_ne n, upd_ne (ne_of_none e hp)]; exact e
  · rw [decide_eq_false hx]
    exact L2.iteF (h2 hx)
theorem cast_ok {x y z : Int} {w1 w2 : Option V} (hH : H a = some (.lst [.int x, .int y, .int z])) (hp : pailP x y z) (hm : 0 < m) (hm2 : m < 1073741824)
    (q : ∀ r x' y' z' H', 0 ≤ r → r < m → pailP x' y' z' → After H H' a [.int x', .int y', .int z'] → D.rt (.int r) H') : castT K D [some (.ref a), some (.int m), w1, w2] H := by
  obtain ⟨h1, h2, h3, h4⟩ := hp
  refine castHead_ok (x := x) (k := 0) hH rfl rfl hm hm2 (fun hx H' af => ?_) fun _ => ?_
  · exact q _ (x / m) y z H' (mod_lt hm).1 (mod_lt hm).2 ⟨Int.ediv_nonneg h1 (by omega), h2, h3, h4⟩ af
  · have A0 : After H H a [.int x, .int y, .int z] := ⟨hH, fun _ _ _ e => e⟩
    refine ⟨.ref a, rfl, a, _, 2, .int z, rfl, rfl, .inl (.inl hH), rfl, z, 1, rfl, rfl, .ref a, rfl, a, _, 2, 2, rfl, rfl, hH, rfl, ?_⟩
    have A1 : After H _ a [.int x, .int y, .int (z + 1)] := A0.put
    refine ⟨.ref a, rfl, a, _, 1, .int y, rfl, rfl, .inl (.inl A1.1), rfl, .ref a, rfl, a, _, 2, .int (z + 1), rfl, rfl, .inl (.inl A1.1), rfl, 2, z + 1, rfl, rfl, small_l (by decide) (by decide), 36809, 2 * (z + 1), rfl, rfl, y, _, rfl, rfl, small_l (by omega) (by omega), ?_⟩
    refine ⟨.ref a, rfl, a, _, 2, .int (z + 1), rfl, rfl, .inl (.inl A1.1), rfl, 5303, z + 1, rfl, rfl, small_l (by decide) (by decide), _, _, rfl, rfl, _, 7, rfl, rfl, .inl ⟨_, rfl, _, 2147483629, rfl, rfl, by show (0 : Int) < 2147483629; decide, ?_⟩⟩
    refine ⟨.int _, rfl, _, 45413, rfl, rfl, small_r (by decide) (by decide), .ref a, rfl, a, _, 2, .int (z + 1), rfl, rfl, .inl (.inl A1.1), rfl, 3, z + 1, rfl, rfl, small_l (by decide) (by decide), _, _, rfl, rfl, _, 1, rfl, rfl, .inl ⟨_, rfl, _, 2147483587, rfl, rfl, by show (0 : Int) < 2147483587; decide, ?_⟩⟩
    have b := fun r : Int => mod_lt (r := r) (m := 2147483587) (by decide)
    refine ⟨.ref a, rfl, a, _, 1, 1, rfl, rfl, A1.1, rfl, ?_⟩
    refine ⟨.ref a, rfl, a, _, 1, .int _, rfl, rfl, .inl (.inl upd_same), rfl, _, 256, rfl, rfl, ⟨by decide, by decide⟩, .inl ⟨_, rfl, .int m, rfl, _, m, rfl, rfl, hm, ?_⟩⟩
    exact q _ x _ (z + 1) _ (mod_lt hm).1 (mod_lt hm).2 ⟨h1, (b _).1, Int.lt_trans (b _).2 (by decide), by omega⟩ A1.put
theorem draw_ok {x y z : Int} {w1 w2 : Option V} (hH : H a = some (.lst [.int x, .int y, .int z])) (hp : wellP x y z) (hm : 0 < m) (hm2 : m < 1073741824)
    (q : ∀ r x' y' z' H', 0 ≤ r → r < m → wellP x' y' z' → After H H' a [.int x', .int y', .int z'] → D.rt (.int r) H') : drawT K D [some (.ref a), some (.int m), w1, w2] H := by
  obtain ⟨h1, h2, h3, h4⟩ := hp
  refine castHead_ok (x := z) (k := 2) hH rfl rfl hm hm2 (fun hx H' af => ?_) fun _ => ?_
  · exact q _ x y (z / m) H' (mod_lt hm).1 (mod_lt hm).2 ⟨h1, h2, h3, Int.ediv_nonneg h4 (by omega)⟩ af
  · have A0 : After H H a [.int x, .int y, .int z] := ⟨hH, fun _ _ _ e => e⟩
    refine ⟨.ref a, rfl, a, _, 1, .int y, rfl, rfl, .inl (.inl hH), rfl, y, 1, rfl, rfl, .ref a, rfl, a, _, 1, 1, rfl, rfl, hH, rfl, ?_⟩
    have A1 : After H _ a [.int x, .int (y + 1), .int z] := A0.put
    refine ⟨.ref a, rfl, a, _, 0, .int x, rfl, rfl, .inl (.inl A1.1), rfl, .inl ⟨x, rfl, ?_⟩⟩
    refine ⟨.int x, rfl, x, 44017, rfl, rfl, small_r (by decide) (by decide), .ref a, rfl, a, _, 1, .int (y + 1), rfl, rfl, .inl (.inl A1.1), rfl, y + 1, 52009, rfl, rfl, small_r (by decide) (by decide), _, _, rfl, rfl, _, 53, rfl, rfl, .inl ⟨_, rfl, _, 2147483629, rfl, rfl, by show (0 : Int) < 2147483629; decide, ?_⟩⟩
    have b := fun r : Int => mod_lt (r := r) (m := 2147483629) (by decide)
    refine ⟨.ref a, rfl, a, _, 0, 0, rfl, rfl, A1.1, rfl, ?_⟩
    refine ⟨.ref a, rfl, a, _, 0, .int _, rfl, rfl, .inl (.inl upd_same), rfl, _, 2048, rfl, rfl, ⟨by decide, by decide⟩, .inl ⟨_, rfl, .int m, rfl, _, m, rfl, rfl, hm, ?_⟩⟩
    exact q _ _ (y + 1) z _ (mod_lt hm).1 (mod_lt hm).2 ⟨(b _).1, Int.lt_trans (b _).2 (by decide), by omega, h4⟩ A1.put
end
/-- the promise from such a reading -/
theorem cast_spD {T : Tx} {vs : List V} {H : Hp} {Q : VK} {E : XK} (h : spD T 2 castS vs H Q E) : ∃ (a : Addr) (m x y z : Int), vs = [.ref a, .int m] ∧ H a = some (.lst [.int x, .int y, .int z]) ∧ T.pl x y z ∧ 0 < m ∧ m < 1073741824 ∧
    ∀ r x' y' z' H', 0 ≤ r → r < m → T.pl x' y' z' → After H H' a [.int x', .int y', .int z'] → Q (.int r) H' := by
  obtain ⟨c, B, ds, Qd, xd, rfl, ho, rr, hl, ⟨m, rfl, h1, h2, h3⟩, q, _⟩ := h
  cases rr with
  | cons n1 rr =>
    cases rr with
    | cons n2 rr =>
      cases rr; cases n2
      cases n1 with
      | @ptr a ha =>
        obtain ⟨z1, x, y, z, hx, hp⟩ := ho.pail a ha
        refine ⟨a, m, x, y, z, rfl, hx, hp, h1, h2, fun r x' y' z' H' r0 r1 hp' af => ?_⟩
        have kp : ExP c c.H0 H' := fun b o hn hb => af.2 b o (fun e => hn (by rw [e]; exact ha)) hb
        refine q _ _ _ B H' (h3 r r0 r1) Ex.rfl' kp ⟨fun b o hb => ?_, fun b hb => ?_, fun b hb => ?_⟩ (.p (.int r))
        · exact af.2 b o (ne_of_none hb z1) (ho.ex b o hb)
        · rw [ha] at hb; cases hb
          exact ⟨z1, x', y', z', af.1, hp'⟩
        · obtain ⟨⟨o, h⟩, h2, h3⟩ := ho.fb b hb
          exact ⟨⟨o, af.2 b o (fun e => h3 (by rw [e]; exact ha)) h⟩, h2, h3⟩
end Dc
set_option maxHeartbeats 1000000
/-! Data calculus 17: walks over any row of things; the readings opened. -/
namespace Dc
open PySem L2 PyProof.Rows PySem.W

/-! ### what is walked, whatever it is -/
def iAnyT (K : Frag) (tl : TE) : TI := fun σ H R => tl σ H fun x H1 => (∃ a, x = .ref a ∧ (∃ xs, SqL K H1 a xs) ∧ R (Itl K a) H1) ∨ (∃ a, x = .ref a ∧ (∃ xs, SqT K H1 a xs) ∧ R (Itt K a) H1) ∨ ∃ z, x = .str z ∧ R (Its z) H1
theorem pi_any {X : Cx} {tg l : Expr} {tl : TE} (hl : PE X l tl) : PI X tg l (iAnyT X.K tl) := by
  refine ⟨fun pins s σ H R I h => ?_⟩
  refine thn (hl.run pins s σ H _ I h) fun v s1 ⟨x, H1, I1, r1, q1⟩ => ?_
  rcases q1 with ⟨a, e, ⟨xs, hq⟩, q⟩ | ⟨a, e, ⟨xs, hq⟩, q⟩ | ⟨z, e, q⟩
  · subst e
    cases r1
    obtain ⟨its, rv, p, hz⟩ := I1.list hq
    exact wpAny_pyIter_list p.isList (pi_one (tk := s1.toks) I1 _ (turn_list a _) ⟨_, Heap.get?_push_size _ rfl, rfl, rfl⟩ q)
  · subst e
    cases r1
    obtain ⟨its, rv, p, hz⟩ := I1.tuple hq
    exact wpAny_pyIter_tuple (show s1.heap.IsTuple a its.toArray from p) (pi_one (tk := s1.toks) I1 _ (turn_tuple a _) ⟨_, Heap.get?_push_size _ rfl, rfl, rfl⟩ q)
  · subst e
    obtain ⟨t, rfl⟩ := r1
    cases ha : z.cps.all (· < 128)
    · exact wpAny_pyIter_wide ha (pi_one (tk := s1.toks) I1 _ (turn_str _ z t "str_iterator" (.inr rfl)) ⟨_, Heap.get?_push_size _ rfl, rfl, rfl⟩ q)
    · exact wpAny_pyIter_ascii ha (pi_one (tk := s1.toks) I1 _ (turn_str _ z t "str_ascii_iterator" (.inl rfl)) ⟨_, Heap.get?_push_size _ rfl, rfl, rfl⟩ q)
def iAny (t : RE) : RI := fun x ρ Q => t x ρ fun d g ρ1 => match d with
  | .lst ds => Q ds (leak d g ρ1)
  | .tup ds => Q ds (leak d g ρ1)
  | .str z => Q (signs z) ρ1
  | _ => False
theorem serves_str {T : Tx} {c : Dx T} {B : Hp} {z : Str} : Serves c (Its z) B (signs z) := by
  intro B' H' e1 e2
  have hl : (signs z).length = z.cps.size := by simp [signs]
  refine ⟨fun i hi => by show z.cps.size ≤ i; omega, fun i d hd => ?_⟩
  unfold signs at hd
  rw [List.getElem?_map] at hd
  cases e : z.cps.toList[i]? with
  | none => rw [e] at hd; cases hd
  | some c0 =>
    rw [e] at hd
    have hd : D.str ⟨#[c0]⟩ = d := Option.some.inj hd
    subst hd
    have e' : z.cps[i]? = some c0 := by simpa using e
    refine ⟨?_, fun x H'' ⟨eh, c1, hc, hx⟩ => ⟨B', Ex.rfl', by rw [eh]; exact Ex.rfl', fun σ ρ R => by rw [eh]; exact R, ?_⟩⟩
    · show i < z.cps.size
      exact (Array.getElem?_eq_some_iff.mp e').1
    · rw [e'] at hc; cases hc
      rw [hx]; exact .str _
theorem li_any {T : Tx} {W : WX} {t : RE} : ∀ σ H R', liftI T W (iAny t) σ H R' → iAnyT T.K (liftE T W t) σ H R' := by
  rintro σ H R' ⟨c, B, ρ, x, Q, R, X, h, q⟩
  refine ⟨c, B, ρ, x, _, R, X, h, fun d g ρ1 v B1 H1 h1 e1 k1 R1 t1 => ?_⟩
  obtain ⟨B2, e2, R2, n2⟩ := leak_ok R1 t1
  cases n2 <;> first | exact h1.elim | skip
  case str z =>
    refine .inr (.inr ⟨_, rfl, ?_⟩)
    exact q _ _ _ B1 H1 h1 e1 k1 R1 fun F => serves_str
  case tup a xs ds hs r => exact .inr (.inl ⟨a, rfl, ⟨xs, R2.ex.sqT hs⟩, q _ _ _ B2 H1 h1 (e1.trans e2) k1 R2 fun F => serves_tup hs (Dens.ent _ _ r)⟩)
  case lst a xs ds hs np r => exact .inl ⟨a, rfl, ⟨xs, .inl (.inl (R2.ex _ _ hs))⟩, q _ _ _ B2 H1 h1 (e1.trans e2) k1 R2 fun F => serves_list hs (Dens.ent _ _ r)⟩
theorem qi_any {X : Cx} {T : Tx} {W : WX} {tg e : Expr} {re : RE} (he : PE X e (liftE T W re)) (hK : X.K = T.K := by rfl) : PI X tg e (liftI T W (iAny re)) := (pi_any he).imp (by rw [hK]; exact li_any)
/-- nothing flies out of a comprehension -/
theorem takes0 {X : Cx} : Takes X W0 := fun u s' ⟨_, _, _, _, _, _, _, _, _, _, _, _, _, _, _, _, w⟩ => w.elim

/-! ### the readings opened -/
section
variable {x : XQ} {ρ : Env} {Q : EQ} {QA : List D → Env → Prop} {QT : Bool → Env → Prop} {QI : List D → Env → Prop} {QO : Option Int → Env → Prop} {k : Kd} {i j n m : Nat} {ta tb tc : RE} {ra rb : RA} {rt ru : RT} {ri : RI} {d e : D} {f : F2} {f1 : F1} {fn : FN} {g : RG} {gs : RGs} {s t : RS}
@[simp] theorem o_slot_sh (h : ρ[i]? = some (.sh d)) {q : D → Tag → Prop} : slot ρ i q = q d .p := by unfold slot; rw [h]
@[simp] theorem o_slot_own (h : ρ[i]? = some (.own d)) {q : D → Tag → Prop} : slot ρ i q = q d (.b i) := by unfold slot; rw [h]
@[simp] theorem o_var : dVar i x ρ Q = slot ρ i fun d g => Q d g ρ := rfl
@[simp] theorem o_c : dC d x ρ Q = Q d .p ρ := rfl
@[simp] theorem o_op : dOp f ta tb x ρ Q = ta x ρ fun d1 _ ρ1 => tb x ρ1 fun d2 _ ρ2 => f d1 d2 fun d g => Q d g ρ2 := rfl
@[simp] theorem o_un : dUn f1 ta x ρ Q = ta x ρ fun d1 _ ρ1 => f1 d1 fun d g => Q d g ρ1 := rfl
@[simp] theorem o_nil : dNil x ρ QA = QA [] ρ := rfl
@[simp] theorem o_cons : dCons ta ra x ρ QA = ta x ρ fun d g ρ1 => ra x (leak d g ρ1) fun ds ρ2 => QA (d :: ds) ρ2 := rfl
@[simp] theorem o_consB : dConsB ta ra x ρ QA = ta x ρ fun d _ ρ1 => ra x ρ1 fun ds ρ2 => QA (d :: ds) ρ2 := rfl
@[simp] theorem o_star : dStar ta ra x ρ QA = ta x ρ fun d _ ρ1 => items d fun es => ra x ρ1 fun ds ρ2 => QA (es ++ ds) ρ2 := rfl
@[simp] theorem o_items_l {ds : List D} {q : List D → Prop} : items (.lst ds) q = q ds := rfl
@[simp] theorem o_items_t {ds : List D} {q : List D → Prop} : items (.tup ds) q = q ds := rfl
@[simp] theorem o_tup : dTup ra x ρ Q = ra x ρ fun ds ρ1 => ds.length ≤ sizeLine ∧ Q (.tup ds) .p ρ1 := rfl
@[simp] theorem o_lst : dLst ra x ρ Q = ra x ρ fun ds ρ1 => ds.length ≤ sizeLine ∧ Q (.lst ds) .f ρ1 := rfl
@[simp] theorem o_call : dCall fn ra x ρ Q = ra x ρ fun ds ρ1 => fn ds fun d g => Q d g ρ1 := rfl
@[simp] theorem o_if : dIf rt ta tb x ρ Q = rt x ρ fun b ρ1 => if b = true then ta x ρ1 Q else tb x ρ1 Q := rfl
@[simp] theorem o_blOf {b : Bool} {q : Bool → Prop} : blOf (.bl b) q = q b := rfl
@[simp] theorem o_andV : dAndV ta tb x ρ Q = ta x ρ fun d _ ρ1 => blOf d fun b => if b = true then tb x ρ1 Q else Q (.bl false) .p ρ1 := rfl
@[simp] theorem o_orV : dOrV ta tb x ρ Q = ta x ρ fun d _ ρ1 => blOf d fun b => if b = true then Q (.bl true) .p ρ1 else tb x ρ1 Q := rfl
@[simp] theorem o_notV : dNotV ta x ρ Q = ta x ρ fun d _ ρ1 => blOf d fun b => Q (.bl (!b)) .p ρ1 := rfl
@[simp] theorem o_test : dTest ta x ρ QT = ta x ρ fun d _ ρ1 => blOf d fun b => QT b ρ1 := rfl
@[simp] theorem o_and : dAnd rt ru x ρ QT = rt x ρ fun b ρ1 => if b = true then ru x ρ1 QT else QT false ρ1 := rfl
@[simp] theorem o_or : dOr rt ru x ρ QT = rt x ρ fun b ρ1 => if b = true then QT true ρ1 else ru x ρ1 QT := rfl
@[simp] theorem o_not : dNot rt x ρ QT = rt x ρ fun b ρ1 => QT (!b) ρ1 := rfl
@[simp] theorem o_truth : dTruth ta x ρ QT = ta x ρ fun d _ ρ1 => truth d fun b => QT b ρ1 := rfl
@[simp] theorem o_yes : dYes x ρ QT = QT true ρ := rfl
@[simp] theorem o_chain {f' : F2} : dChain f f' ta tb tc x ρ Q = ta x ρ fun d1 _ ρ1 => tb x ρ1 fun d2 _ ρ2 => f d1 d2 fun d _ => blOf d fun b => if b = true then tc x ρ2 fun d3 _ ρ3 => f' d2 d3 fun d t => Q d t ρ3 else Q (.bl false) .p ρ2 := rfl
@[simp] theorem o_own {sp : Sps} : dOwn n sp ra x ρ Q = ra x ρ fun ds ρ1 => ds.length = n ∧ sp ds (fun d o => Q d (if o = true then .f else .p) ρ1) (fun e => x e ρ1) := rfl
@[simp] theorem o_pos : dPos n ra x ρ QA = ra x ρ fun ds ρ1 => ds.length = n ∧ QA ds ρ1 := rfl
@[simp] theorem o_kw : dKw n m ra rb x ρ QA = ra x ρ fun ds ρ1 => rb x ρ1 fun es ρ2 => ds.length = n ∧ es.length = m ∧ QA (ds ++ es) ρ2 := rfl
@[simp] theorem o_asObj {os : List D} {q : List D → Prop} : asObj n (.obj m os) q = (m = n ∧ q os) := rfl
@[simp] theorem o_meth {sp : Sps} : dMeth n m sp ta ra x ρ Q = ta x ρ fun d _ ρ1 => asObj n d fun os => ra x ρ1 fun es ρ2 => es.length + 1 = m ∧ sp (.obj n os :: es) (fun d o => Q d (tagO o) ρ2) (fun e => x e ρ2) := rfl
@[simp] theorem o_cm {C : Addr} {sp : Sps} : dCm C n sp ra x ρ Q = ra x ρ fun es ρ2 => es.length + 1 = n ∧ sp (.adr C :: es) (fun d o => Q d (tagO o) ρ2) (fun e => x e ρ2) := rfl
@[simp] theorem o_prop {sp : Sps} : dProp n sp ta x ρ Q = ta x ρ fun d _ ρ1 => asObj n d fun os => sp [.obj n os] (fun d o => Q d (tagO o) ρ1) (fun _ => False) := rfl
@[simp] theorem o_sl : dSl n i ta x ρ Q = ta x ρ fun d _ ρ1 => asObj n d fun os => nth i os fun e => Q e .p ρ1 := rfl
@[simp] theorem o_nth {ds : List D} {q : D → Prop} : nth i ds q = (match ds[i]? with | some e => q e | none => False) := rfl
@[simp] theorem o_make {sp : SpsI} : dMake n m sp ra x ρ Q = ra x ρ fun ds ρ1 => ds.length + 1 = m ∧ sp ds (fun os => Q (.obj n os) .p ρ1) (fun e => x e ρ1) := rfl
@[simp] theorem o_tagO_t : tagO true = .f := rfl
@[simp] theorem o_tagO_f : tagO false = .p := rfl
@[simp] theorem o_slice {f : FS} {rl rh : RO} : dSlice f ta rl rh x ρ Q = ta x ρ fun d _ ρ1 => rl x ρ1 fun l ρ2 => rh x ρ2 fun u ρ3 => f d l u fun d g => Q d g ρ3 := rfl
@[simp] theorem o_no : oNo x ρ QO = QO none ρ := rfl
@[simp] theorem o_so : oSo ta x ρ QO = ta x ρ fun d _ ρ1 => intOf d fun i => QO (some i) ρ1 := rfl
@[simp] theorem o_intOf {z : Int} {q : Int → Prop} : intOf (.int z) q = q z := rfl
@[simp] theorem o_isi {h : D → Option Bool} : dIsi h ta x ρ Q = ta x ρ fun d _ ρ1 => ∃ b, h d = some b ∧ Q (.bl b) .p ρ1 := rfl
@[simp] theorem o_fmt : dFmt ta x ρ Q = ta x ρ fun d _ ρ1 => match d with
  | .str y => y.length ≤ sizeLine ∧ Q (.str y) .p ρ1
  | .int i => i.natAbs.log2 < 1920 ∧ Q (.str (toString i)) .p ρ1
  | _ => False := rfl
@[simp] theorem o_js_nil {acc : Str} : dJs [] acc x ρ Q = Q (.str acc) .p ρ := rfl
@[simp] theorem o_js_cons {ts : List RE} {acc : Str} : dJs (ta :: ts) acc x ρ Q = ta x ρ fun d _ ρ1 => match d with
    | .str y => (acc ++ y).length ≤ sizeLine ∧ dJs ts (acc ++ y) x ρ1 Q
    | _ => False := rfl
@[simp] theorem o_m1 {h : FM} : dM1 h ta tb x ρ Q = ta x ρ fun d1 _ ρ1 => isStrD d1 ∧ tb x ρ1 fun d2 _ ρ2 => h d1 [d2] fun d g => Q d g ρ2 := rfl
@[simp] theorem o_call1 {so : Sps} : dCall1 fn so ta x ρ Q = ta x ρ fun d g ρ1 => match d with
  | .obj k os => so [.obj k os] (fun e o => Q e (tagO o) ρ1) (fun _ => False)
  | d => fn [d] fun e g => Q e g ρ1 := rfl
@[simp] theorem o_next : sNext k ρ = k.nx ρ := rfl
@[simp] theorem o_seq : sSeq s t k ρ = s { k with nx := t k } ρ := rfl
@[simp] theorem o_break : sBreak k ρ = k.bk ρ := rfl
@[simp] theorem o_cont : sCont k ρ = k.ct ρ := rfl
@[simp] theorem o_ret : sRet ta k ρ = ta k.ex ρ k.rt := rfl
@[simp] theorem o_retN : sRetN k ρ = k.rt .non .p ρ := rfl
@[simp] theorem o_drop : sDrop ta k ρ = ta k.ex ρ fun _ _ ρ1 => k.nx ρ1 := rfl
@[simp] theorem o_ifS : sIf rt s t k ρ = rt k.ex ρ fun x ρ1 => if x = true then s k ρ1 else t k ρ1 := rfl
@[simp] theorem o_set : sSet i ta k ρ = ta k.ex ρ fun d g ρ1 => k.nx (put i d g ρ1) := rfl
@[simp] theorem o_asg : sAsg ta g k ρ = ta k.ex ρ fun d t ρ1 => g d (leak d t ρ1) k.nx := rfl
@[simp] theorem o_put_p : put i d .p ρ = ρ.set i (.sh d) := rfl
@[simp] theorem o_put_f : put i d .f ρ = ρ.set i (.own d) := rfl
@[simp] theorem o_put_b : put i d (.b j) ρ = (ρ.set j (.sh d)).set i (.sh d) := rfl
@[simp] theorem o_leak_p : leak d .p ρ = ρ := rfl
@[simp] theorem o_leak_f : leak d .f ρ = ρ := rfl
@[simp] theorem o_leak_b : leak d (.b i) ρ = ρ.set i (.sh d) := rfl
@[simp] theorem o_for : sFor ri g s k ρ = ri k.ex ρ fun ds ρ1 => dLoop g s k ds ρ1 := rfl
@[simp] theorem o_loop_nil : dLoop g s k [] ρ = k.nx ρ := rfl
@[simp] theorem o_gN {q : Env → Prop} : gN i d ρ q = (i < ρ.length ∧ q (ρ.set i (.sh d))) := rfl
@[simp] theorem o_gT {ds : List D} {q : Env → Prop} : gT n gs (.tup ds) ρ q = (ds.length = n ∧ gs ds ρ q) := rfl
@[simp] theorem o_gL {ds : List D} {q : Env → Prop} : gL n gs (.lst ds) ρ q = (ds.length = n ∧ gs ds ρ q) := rfl
@[simp] theorem o_gsNil {q : Env → Prop} : gsNil [] ρ q = q ρ := rfl
@[simp] theorem o_gsCons {ds : List D} {q : Env → Prop} : gsCons g gs (d :: ds) ρ q = g d ρ fun ρ1 => gs ds ρ1 q := rfl
@[simp] theorem o_any_l {ds : List D} : iAny (fun x ρ Q => Q (.lst ds) .p ρ) x ρ QI = QI ds ρ := rfl
@[simp] theorem o_any : iAny ta x ρ QI = ta x ρ fun d g ρ1 => match d with
  | .lst ds => QI ds (leak d g ρ1)
  | .tup ds => QI ds (leak d g ρ1)
  | .str z => QI (signs z) ρ1
  | _ => False := rfl
@[simp] theorem o_enum : iEnumD ta x ρ QI = ta x ρ fun d g ρ1 => items d fun ds => QI (numbered ds) (leak d g ρ1) := rfl
@[simp] theorem o_range1 : iRange1 ra x ρ QI = ra x ρ fun ds ρ1 => match ds with
  | [.int n] => inR n ∧ QI (ups 0 n.toNat) ρ1
  | _ => False := rfl
@[simp] theorem o_range2 : iRange2 ra x ρ QI = ra x ρ fun ds ρ1 => match ds with
  | [.int a, .int b] => inR a ∧ inR b ∧ QI (ups a (b - a).toNat) ρ1
  | _ => False := rfl
@[simp] theorem o_lc {fz own : List Nat} : dLc ri fz own g rt ta x ρ Q = ri x ρ fun ds ρ1 => ds.length ≤ sizeLine ∧ lcL own (wipeE (frz (own ++ fz) ρ1) own) g rt ta ds [] fun acc => Q (.lst acc) .f (frz (own ++ fz) ρ1) := rfl
@[simp] theorem o_lcL_nil {own : List Nat} {acc : List D} {q : List D → Prop} : lcL own ρ g rt ta [] acc q = q acc := rfl
@[simp] theorem o_rev : dRev ta x ρ Q = ta x ρ fun d _ ρ1 => match d with
  | .lst ds => Q (.lst ds.reverse) .f ρ1
  | _ => False := rfl
@[simp] theorem o_turn {pl : Int → Int → Int → Prop} {sp : Sps} : dTurn pl n sp ra x ρ Q = ra x ρ fun ds ρ1 => ds.length = n ∧ sp ds (fun d o => o = true ∧ (∃ i j k : Int, d = .lst [.int i, .int j, .int k] ∧ pl i j k) ∧ Q (.bl true) .p ρ1) (fun _ => False) := rfl
@[simp] theorem o_ownIn (h : ρ[i]? = some (.own d)) {q : D → Prop} : ownIn ρ i q = q d := by unfold ownIn; rw [h]
@[simp] theorem o_sWr {w : FW} : sWr i w ra k ρ = ownIn ρ i fun d => isLst d ∧ ra k.ex ρ fun ds ρ1 => ownIn ρ1 i fun d => w d ds fun d' r => k.nx (ρ1.set i (.own d')) := rfl
@[simp] theorem o_sPut : sPut i ta tb k ρ = ta k.ex ρ fun d g ρ1 => ownIn (leak d g ρ1) i fun _ => tb k.ex (leak d g ρ1) fun b _ ρ2 => ownIn ρ2 i fun o => putAt o b d fun o' => k.nx (ρ2.set i (.own o')) := rfl
@[simp] theorem o_sNever : sNever k ρ = False := rfl
@[simp] theorem o_kd_nx {Qd : D → Bool → Prop} {xd : D → Prop} : (kdOf Qd xd).nx ρ = Qd .non false := rfl
@[simp] theorem o_kd_rt {Qd : D → Bool → Prop} {xd : D → Prop} {tg : Tag} : (kdOf Qd xd).rt d tg ρ = Qd d (frOf tg) := rfl
@[simp] theorem o_kd_ex {Qd : D → Bool → Prop} {xd : D → Prop} : (kdOf Qd xd).ex d ρ = xd d := rfl
@[simp] theorem o_frOf_p : frOf .p = false := rfl
@[simp] theorem o_frOf_f : frOf .f = true := rfl
@[simp] theorem o_frOf_b : frOf (.b i) = true := rfl
end
end Dc
set_option maxHeartbeats 1000000
/-! Data calculus 18: a, b = x, y. -/
namespace Dc
open PySem L2 PyProof.Rows PySem.W

def unB : Tag → Tag
  | .b _ => .p
  | g => g
/-- things handed on together: told of, or new and nobody's -/
inductive Tgs {T : Tx} (c : Dx T) (σ : L2.St) (B H : Hp) (ρ : Env) : List V → List (D × Tag) → Prop
  | nil : Tgs c σ B H ρ [] []
  | p {v : V} {d : D} {vs : List V} {l : List (D × Tag)} : Den c B v d → Tgs c σ B H ρ vs l → Tgs c σ B H ρ (v :: vs) ((d, .p) :: l)
  | f {a : Addr} {d : D} {vs : List V} {l : List (D × Tag)} : Mine c B a → OwnAt c B H a d → (∀ (i : Nat) (e : D), σ[i]? = some (some (V.ref a)) → ρ[i]? = some (Sl.own e) → False) →
      (∀ (i : Nat) (e : D), vs[i]? = some (V.ref a) → l[i]? = some (e, .f) → False) → Tgs c σ B H ρ vs l → Tgs c σ B H ρ (.ref a :: vs) ((d, .f) :: l)
abbrev RAt := XQ → Env → (List (D × Tag) → Env → Prop) → Prop
def dNilT : RAt := fun _ ρ Q => Q [] ρ
def dConsT (ta : RE) (tr : RAt) : RAt := fun x ρ Q => ta x ρ fun d g ρ1 => tr x (leak d g ρ1) fun l ρ2 => Q ((d, unB g) :: l) ρ2
def liftAt (T : Tx) (W : WX) (t : RAt) : TA := fun σ H Q' => ∃ c : Dx T, ∃ B ρ x Q, Rel c σ B H ρ ∧ XW c W B x ∧ t x ρ Q ∧
  ∀ l ρ' vs B' H', Q l ρ' → Ex B B' → ExP c H H' → Rel c σ B' H' ρ' → Tgs c σ B' H' ρ' vs l → Q' vs H'
section
variable {T : Tx} {c : Dx T} {σ : L2.St} {B B' H H' : Hp} {ρ : Env}
/-- an address more, or less, is left alone -/
theorem Rel.fence (R : Rel c σ B H ρ) {a : Addr} (ha : ∃ o, H a = some o) (hb : B a = none) (hp : c.pa ≠ some a) (hn : ∀ (i : Nat) (e : D), σ[i]? = some (some (V.ref a)) → ρ[i]? = some (Sl.own e) → False) : Rel (Dc.ward c a) σ B H ρ := by
  refine ⟨R.ex, R.pail, R.ent, fun b h => ?_, R.len, fun i u s h1 h2 => ?_, R.dj⟩
  · rcases h with h | rfl
    · exact R.fb b h
    · exact ⟨ha, hb, hp⟩
  · have z := R.sl i u s h1 h2
    cases z with
    | no => exact .no
    | sh z => exact .sh (Den.ent _ _ z)
    | @own b d mm z =>
      refine .own ⟨mm.b, mm.p, mm.h, fun q => ?_⟩ (OwnAt.to (c := c) (c' := Dc.ward c a) rfl z)
      rcases q with q | rfl
      · exact mm.f q
      · exact hn i d h1 h2
theorem Rel.unfence {a : Addr} (R : Rel (Dc.ward c a) σ B H ρ) : Rel c σ B H ρ := by
  refine ⟨R.ex, R.pail, R.ent, fun b h => R.fb b (.inl h), R.len, fun i u s h1 h2 => ?_, R.dj⟩
  have z := R.sl i u s h1 h2
  cases z with
  | no => exact .no
  | sh z => exact .sh (Den.unent z)
  | own mm z => exact .own ⟨mm.b, mm.p, mm.h, fun q => mm.f (.inl q)⟩ (OwnAt.to (c := Dc.ward c a) (c' := c) rfl z)
theorem Tgs.unfence {a : Addr} {vs : List V} {l : List (D × Tag)} (h : Tgs (Dc.ward c a) σ B H ρ vs l) : Tgs c σ B H ρ vs l ∧ ∀ (i : Nat) (e : D), vs[i]? = some (V.ref a) → l[i]? = some (e, .f) → False := by
  induction h with
  | nil => exact ⟨.nil, fun i e h => by simp at h⟩
  | p n r ih =>
    refine ⟨.p (Den.unent n) ih.1, fun i e h1 h2 => ?_⟩
    cases i with
    | zero => simp at h2
    | succ i => exact ih.2 i e (by simpa using h1) (by simpa using h2)
  | @f b d vs l m o n1 n2 r ih =>
    refine ⟨.f ⟨m.b, m.p, m.h, fun q => m.f (.inl q)⟩ (OwnAt.to (c := Dc.ward c a) (c' := c) rfl o) n1 n2 ih.1, fun i e h1 h2 => ?_⟩
    cases i with
    | zero =>
      simp at h1
      exact m.f (.inr h1)
    | succ i => exact ih.2 i e (by simpa using h1) (by simpa using h2)
theorem lat_nil {W : WX} : ∀ σ H Q', liftAt T W dNilT σ H Q' → tNil σ H Q' := by
  rintro σ H Q' ⟨c, B, ρ, x, Q, R, X, h, q⟩
  exact q _ _ _ B H h Ex.rfl' ExP.rfl' R .nil
theorem lat_cons {W : WX} {ta : RE} {tr : RAt} : ∀ σ H Q', liftAt T W (dConsT ta tr) σ H Q' → tCons (liftE T W ta) (liftAt T W tr) σ H Q' := by
  rintro σ H Q' ⟨c, B, ρ, x, Q, R, X, h, q⟩
  refine ⟨c, B, ρ, x, _, R, X, h, fun d1 g1 ρ1 v1 B1 H1 h1 e1 k1 R1 t1 => ?_⟩
  have told : ∀ {B2 : Hp} {ρ2 : Env}, Ex B1 B2 → Rel c σ B2 H1 ρ2 → Den c B2 v1 d1 → tr x ρ2 (fun l ρ2 => Q ((d1, .p) :: l) ρ2) → liftAt T W tr σ H1 fun xs H2 => Q' (v1 :: xs) H2 := fun {B2 ρ2} e2 R2 n h =>
    ⟨c, B2, ρ2, x, _, R2, X.up (e1.trans e2), h, fun l ρ3 vs B3 H3 h3 e3 k3 R3 t3 => q _ _ _ B3 H3 h3 (e1.trans (e2.trans e3)) (k1.trans k3) R3 (.p (n.mono e3) t3)⟩
  cases t1 with
  | p n => exact told Ex.rfl' R1 n h1
  | @b a d i w1 w2 =>
    obtain ⟨B2, e2, R2, n⟩ := leak_ok R1 (.b w1 w2)
    exact told e2 R2 n h1
  | @f a d m o n =>
    have R2 := R1.fence o.there m.b m.p n
    refine ⟨Dc.ward c a, B1, ρ1, x, _, R2, fun e ρ' cls dd σ' B' H' hx eb R' xd => X e ρ' cls dd σ' B' H' hx (e1.trans eb) R'.unfence (XDen.to (c := Dc.ward c a) (c' := c) rfl xd), h1, fun l ρ3 vs B3 H3 h3 e3 k3 R3 t3 => ?_⟩
    obtain ⟨t4, ne⟩ := t3.unfence
    have ba : B3 a = none := (R3.fb a (.inr rfl)).2.1
    refine q _ _ _ B3 H3 h3 (e1.trans e3) (k1.trans k3) R3.unfence (.f ⟨ba, m.p, m.h, m.f⟩ (o.mono e3 fun u hu => k3 a u m.p hu) (fun i e w1 w2 => ?_) ne t4)
    exact (R3.ownB w1 w2).1.f (.inr rfl)
/-- the slots js take the things, from the left -/
def setV : List Nat → List V → L2.St → L2.St
  | i :: is, v :: vs, σ => setV is vs (σ.set i (some v))
  | _, _, σ => σ
def setD : List Nat → List (D × Tag) → Env → Env
  | i :: is, p :: l, ρ => setD is l (put i p.1 p.2 ρ)
  | _, _, ρ => ρ
theorem Tgs.after {i : Nat} {v : V} {s : Sl} {vs : List V} {l : List (D × Tag)} (h : Tgs c σ B H ρ vs l) (ok : ∀ a d, v = .ref a → s = .own d → ∀ (j : Nat) (e : D), vs[j]? = some (V.ref a) → l[j]? = some (e, .f) → False) : Tgs c (σ.set i (some v)) B H (ρ.set i s) vs l := by
  induction h with
  | nil => exact .nil
  | p n r ih => exact .p n (ih fun a d e1 e2 j e w1 w2 => ok a d e1 e2 (j + 1) e (by simpa using w1) (by simpa using w2))
  | @f b d vs l m o n1 n2 r ih =>
    refine .f m o (fun j e w1 w2 => ?_) n2 (ih fun a d e1 e2 j e w1 w2 => ok a d e1 e2 (j + 1) e (by simpa using w1) (by simpa using w2))
    by_cases ji : i = j
    · subst ji
      have h1 : i < σ.length := by have := (List.getElem?_eq_some_iff.mp w1).1; simpa using this
      have h2 : i < ρ.length := by have := (List.getElem?_eq_some_iff.mp w2).1; simpa using this
      rw [List.getElem?_set_self h1] at w1
      rw [List.getElem?_set_self h2] at w2
      injection w1 with w1; injection w1 with w1; injection w2 with w2
      exact ok b e w1 w2 0 d rfl rfl
    · rw [List.getElem?_set_ne ji] at w1 w2
      exact n1 j e w1 w2
theorem setAll : ∀ (js : List Nat) {vs : List V} {l : List (D × Tag)} {σ : L2.St} {ρ : Env}, Rel c σ B H ρ → Tgs c σ B H ρ vs l → Rel c (setV js vs σ) B H (setD js l ρ)
  | [], vs, l, σ, ρ, R, t => by
    cases vs <;> cases l <;> exact R
  | i :: is, _, _, σ, ρ, R, .nil => R
  | i :: is, _, _, σ, ρ, R, .p n r => setAll is (R.setSh i n) (r.after fun a d _ e => (nomatch e))
  | i :: is, _, _, σ, ρ, R, .f m o n1 n2 r => setAll is (R.setOwn i m o n1) (r.after fun a d e1 _ j e w1 w2 => by cases e1; exact n2 j e w1 w2)
end
def sPar (js : List Nat) (ta : RAt) : RS := fun k ρ => ta k.ex ρ fun l ρ1 => l.length = js.length ∧ k.nx (setD js l ρ1)
theorem Tgs.len {T : Tx} {c : Dx T} {σ : L2.St} {B H : Hp} {ρ : Env} {vs : List V} {l : List (D × Tag)} (h : Tgs c σ B H ρ vs l) : vs.length = l.length := by
  induction h with
  | nil => rfl
  | p _ _ ih => simp [ih]
  | f _ _ _ _ _ ih => simp [ih]
section
variable {T : Tx} {W : WX} {ta : RAt} {i j k : Nat}
theorem ls_par2 : ∀ D σ H, liftS T W (sPar [i, j] ta) D σ H → tPar i j (liftAt T W ta) D σ H := by
  rintro D σ H ⟨c, B, ρ, k, R, X, h, n, r, bk, ct⟩
  refine ⟨c, B, ρ, _, _, R, X, h, fun l ρ1 vs B1 H1 h1 e1 k1 R1 t1 => ?_⟩
  have R2 := setAll [i, j] R1 t1
  have hl := t1.len
  rw [h1.1] at hl
  match vs, hl with
  | [v, w], _ => exact ⟨v, w, rfl, n _ _ B1 H1 h1.2 e1 R2⟩
theorem ls_par3 : ∀ D σ H, liftS T W (sPar [i, j, k] ta) D σ H → tPar3 i j k (liftAt T W ta) D σ H := by
  rintro D σ H ⟨c, B, ρ, kk, R, X, h, n, r, bk, ct⟩
  refine ⟨c, B, ρ, _, _, R, X, h, fun l ρ1 vs B1 H1 h1 e1 k1 R1 t1 => ?_⟩
  have R2 := setAll [i, j, k] R1 t1
  have hl := t1.len
  rw [h1.1] at hl
  match vs, hl with
  | [u, v, w], _ => exact ⟨u, v, w, rfl, n _ _ B1 H1 h1.2 e1 R2⟩
variable {X : Cx} {e a b d : Expr} {es : List Expr} {re : RE} {rr : RAt} {pos : Pos}
theorem qt_nil : PA X [] (liftAt T W dNilT) := pa_nil.imp lat_nil
theorem qt_cons (ha : PE X e (liftE T W re)) (hr : PA X es (liftAt T W rr)) (hs : starEach (e :: es) X.env = (false, eval e X.env) :: starEach es X.env := by rfl) : PA X (e :: es) (liftAt T W (dConsT re rr)) := (pa_cons ha hr hs).imp lat_cons
theorem qs_par2 (i j : Nat) {x y : Str} {px py pt : Pos} {kt k2 pt2} (hc : X.calm = true) (hN : X.N.Nodup) (ha : PA X [a, b] (liftAt T W ta)) (hi : X.N[i]? = some x := by rfl) (hj : X.N[j]? = some y := by rfl) (hij : i ≠ j := by decide)
    (hx : X.env.scope.names.lookup x = some .local := by rfl) (hy : X.env.scope.names.lookup y = some .local := by rfl)
    (hw : swappedStores [.Tuple [.Name x px, .Name y py] kt pt] (.Tuple [a, b] k2 pt2) X.env = pure (some [x, y]) := by rfl)
    (hs : swapsWithSole [.Tuple [.Name x px, .Name y py] kt pt] (.Tuple [a, b] k2 pt2) pos.line X.env = pure false := by rfl) :
    PS X (.Assign [.Tuple [.Name x px, .Name y py] kt pt] (.Tuple [a, b] k2 pt2) pos) (liftS T W (sPar [i, j] ta)) := (ps_par hc hN hi hj hij hx hy ha hw hs).imp ls_par2
theorem qs_par3 (i j l : Nat) {x y z : Str} {px py pz pt : Pos} {kt k2 pt2} (hc : X.calm = true) (hN : X.N.Nodup) (ha : PA X [a, b, d] (liftAt T W ta)) (hi : X.N[i]? = some x := by rfl) (hj : X.N[j]? = some y := by rfl) (hl : X.N[l]? = some z := by rfl) (hij : i ≠ j := by decide) (hil : i ≠ l := by decide) (hjl : j ≠ l := by decide)
    (hx : X.env.scope.names.lookup x = some .local := by rfl) (hy : X.env.scope.names.lookup y = some .local := by rfl) (hz : X.env.scope.names.lookup z = some .local := by rfl)
    (hw : swappedStores [.Tuple [.Name x px, .Name y py, .Name z pz] kt pt] (.Tuple [a, b, d] k2 pt2) X.env = pure (some [x, y, z]) := by rfl)
    (hs : swapsWithSole [.Tuple [.Name x px, .Name y py, .Name z pz] kt pt] (.Tuple [a, b, d] k2 pt2) pos.line X.env = pure false := by rfl) :
    PS X (.Assign [.Tuple [.Name x px, .Name y py, .Name z pz] kt pt] (.Tuple [a, b, d] k2 pt2) pos) (liftS T W (sPar [i, j, l] ta)) := (ps_par3 hc hN hi hj hl hij hil hjl hx hy hz ha hw hs).imp ls_par3
end
@[simp] theorem o_nilT {x : XQ} {ρ : Env} {Q : List (D × Tag) → Env → Prop} : dNilT x ρ Q = Q [] ρ := rfl
@[simp] theorem o_consT {x : XQ} {ρ : Env} {ta : RE} {tr : RAt} {Q : List (D × Tag) → Env → Prop} : dConsT ta tr x ρ Q = ta x ρ fun d g ρ1 => tr x (leak d g ρ1) fun l ρ2 => Q ((d, unB g) :: l) ρ2 := rfl
@[simp] theorem o_unB_p : unB .p = .p := rfl
@[simp] theorem o_unB_f : unB .f = .f := rfl
@[simp] theorem o_unB_b {i : Nat} : unB (.b i) = .p := rfl
@[simp] theorem o_sPar {js : List Nat} {ta : RAt} {k : Kd} {ρ : Env} : sPar js ta k ρ = ta k.ex ρ fun l ρ1 => l.length = js.length ∧ k.nx (setD js l ρ1) := rfl
@[simp] theorem o_setD_nil {l : List (D × Tag)} {ρ : Env} : setD [] l ρ = ρ := by cases l <;> rfl
@[simp] theorem o_setD_cons {i : Nat} {is : List Nat} {p : D × Tag} {l : List (D × Tag)} {ρ : Env} : setD (i :: is) (p :: l) ρ = setD is l (put i p.1 p.2 ρ) := rfl
end Dc
set_option maxHeartbeats 1000000
/-! Data calculus 19: facts of classes, as the end wants them. -/
namespace Dc
open PySem L2 PyProof.Rows PySem.W
theorem kit_mt {K : Frag} {C : Addr} {T : String} {r : Bool} (h : mroIn K C (.type T) = some r) (hk : kitMeta T = true := by decide +kernel) : kitOne K (.ref C) (.type T) = some r := by
  show (if (Value.ref C == Value.type T) = true then some true else if kitMeta T = true then mroIn K C (.type T) else none) = some r
  have e : (Value.ref C == Value.type T) = false := rfl
  rw [e, hk, h]; rfl
theorem noref (C : Addr) : ∀ l : List String, (l.map Value.type).contains (Value.ref C) = false
  | [] => rfl
  | _ :: l => by
    rw [List.map_cons, List.contains_cons, noref C l]
    rfl
theorem kit_tm {K : Frag} {C : Addr} {T : String} (h1 : isClsIn K C = true) (h2 : typeIn K (.ref C) = some (.type "type")) (h3 : (fastFind? T).isSome = true := by decide +kernel) : kitOne K (.type T) (.ref C) = some false := by
  show (if (Value.type T == Value.ref C) = true then some true else if ((clsIn K C).isSome && typeIn K (.ref C) == some (.type "type")) = true then ((fastFind? T).map (·.mro.map Value.type)).map (·.contains (Value.ref C)) else none) = some false
  have e : (Value.type T == Value.ref C) = false := rfl
  have e2 : ((clsIn K C).isSome && (some (Value.type "type") == some (Value.type "type"))) = true := by
    rw [show (some (Value.type "type") == some (Value.type "type")) = true from by decide +kernel, Bool.and_true]; exact h1
  rw [e, h2, e2]
  cases q : fastFind? T with
  | none => rw [q] at h3; cases h3
  | some m =>
    show (some ((m.mro.map Value.type).contains (Value.ref C))) = some false
    rw [noref]
theorem ref_beq {C C' : Addr} : (Value.ref C == Value.ref C') = decide (C = C') := by
  by_cases h : C = C'
  · subst h
    rw [decide_eq_true rfl]
    exact beq_self_eq_true _
  · rw [decide_eq_false h]
    cases e : (Value.ref C == Value.ref C') with
    | false => rfl
    | true => exact (h (Value.ref.inj (eq_of_beq e))).elim
theorem kit_mm {K : Frag} {C C' : Addr} (h0 : mroIn K C (.ref C) = some true) (h : mroIn K C (.ref C') = some false) (h1 : isClsIn K C' = true) (h2 : typeIn K (.ref C') = some (.type "type")) : kitOne K (.ref C) (.ref C') = some false := by
  have ne : C ≠ C' := fun e => by
    subst e
    rw [h0] at h; cases h
  show (if (Value.ref C == Value.ref C') = true then some true else if ((clsIn K C').isSome && typeIn K (.ref C') == some (.type "type")) = true then mroIn K C (.ref C') else none) = some false
  have e2 : ((clsIn K C').isSome && (some (Value.type "type") == some (Value.type "type"))) = true := by
    rw [show (some (Value.type "type") == some (Value.type "type")) = true from by decide +kernel, Bool.and_true]; exact h1
  rw [ref_beq, decide_eq_false ne, h2, e2, h]
  rfl
theorem kit_me {K : Frag} {C : Addr} : kitOne K (.ref C) (.ref C) = some true := by
  show (if (Value.ref C == Value.ref C) = true then some true else _) = some true
  rw [ref_beq, decide_eq_true rfl]
  rfl
end Dc
set_option maxHeartbeats 1000000
/-! Data calculus 20: own == and != of instances. -/
namespace Dc
open PySem L2 PyProof.Rows PySem.W

section
variable {prog : Program} {w : World} {A : Around} {E : Value → Shared → Prop} {s : Shared} {K : Frag} {x C L f : Addr} {h₀ : Heap} {m : Str → Option Value} {ox : Obj} {od : Option Obj} {name : Str} {b tb : Value}
theorem ifBound_B {M : Model} {id : String} {args : List Value} {Q : Option Value → Shared → Prop} (X : K.In s.heap) (I : InstAt s.heap x ox C od) (hs : findIn K (.ref C) name = some (some (.builtin id))) (hf : bindSpecial (.builtin id) (.ref x) = pure (.builtin id, [.ref x]))
    (h : wpAny M A (call (.builtin id) (.ref x :: args)) (fun v => Q (some v)) E s) : wpAny M A (callSpecialIfBound? (.ref x) name args) Q E s := by
  simp only [callSpecialIfBound?, bindSpecialIfBound?]
  refine wpAny_holding (wpAny_bind (wpAny_bind (wpAny_bind (I.type.here ((looks_findIn X hs).here ?_)))))
  refine wpAny_bind (wpAny_askSetting (wpAny_ite ?_))
  have fin : wpAny M A (call (.builtin id) ([.ref x] ++ args) >>= fun v => pure (some v)) Q E s := wpAny_bind (wpAny_mono h (fun v s' h' => wpAny_pure h') fun _ _ h' => h')
  rw [hf]
  split
  · exact wpAny_bind (wpAny_pure (wpAny_pure (by exact fin)))
  · exact wpAny_tryCatch (wpAny_bind (wpAny_pure (wpAny_pure (by exact fin))))
theorem check_ne {Q : Unit → Shared → Prop} (X : K.In s.heap) (I : InstAt s.heap x ox C od) (hm : mroIn K C (.type "object") = some true) (hq : Q () s) : wpAny (model prog w) A (checkBuiltinCall "object.__ne__" ⟨[.ref x, b], []⟩) Q E s := by
  simp only [checkBuiltinCall, F.cmpKind_ne, F.cmpSplit_ne]
  refine wpAny_bind ?_
  unfold isInstance
  refine wpAny_bind (I.type.here ((looks_mroIn X hm).here ?_))
  have ha := F.cmpArgs_ne (.ref x) b
  cases hsig : Manifest.signature? "object.__ne__" with
  | none => exact wpAny_pure hq
  | some sig =>
    simp only [argsOk, hsig] at ha
    have h2 : Bind.checkArgs "object.__ne__" sig ⟨[.ref x, b], []⟩ = pure () := ha
    show wpAny (model prog w) A (Bind.checkArgs "object.__ne__" sig ⟨[.ref x, b], []⟩) Q E _
    rw [h2]; exact wpAny_pure hq
theorem ne_entry {Q : Fin → Shared → Prop} (hu : A.units < cLine) (X : K.In s.heap) (I : InstAt s.heap x ox C od) (hs : findIn K (.ref C) "__eq__" = some (some (.ref f))) (hf : isFn K (.ref f) = true)
    (h : wpAny (model prog w) A (call (.ref f) [.ref x, b]) (fun v s' => ∃ r, v = .bool r ∧ Q (.done (.ret (.bool (!r)))) s') E s) : wpAny (model prog w) A (Builtin.«object.__ne__» ⟨[.ref x, b], []⟩) Q E s := by
  unfold Builtin.«object.__ne__»
  repeat (first
    | with_reducible refine wpAny_cRoomFor hu ?_
    | (refine wpAny_bind (m := callSpecialIfBound? (.ref x) (Str.ofString "__eq__") [b])
        (ifBound_K X I hs hf (wpAny_mono h (fun r s' hr => by
          obtain ⟨b, rfl, hq⟩ := hr
          repeat (first | exact hq | exact wpAny_pure hq | exact wpAny_truthy_bool hq | (refine wpAny_bind (m := truthy (.bool _)) (wpAny_truthy_bool ?_)) | wp_step)) fun _ _ e => e)))
    | wp_step)
theorem ne_K {Q : Value → Shared → Prop} (hu : A.units + 1 < cLine) (F0 : Fr h₀ L s.heap m) (X₀ : K.In h₀) (I : InstAt s.heap x ox C od) (hb : Looks (model prog w) s.heap (typeOf b) tb) (hn : notFirst K C tb = true) (hm : mroIn K C (.type "object") = some true)
    (hn2 : findIn K (.ref C) "__ne__" = some (some (.builtin "object.__ne__"))) (hs : findIn K (.ref C) "__eq__" = some (some (.ref f))) (hf : isFn K (.ref f) = true)
    (h : wpAny (model prog w) A.in1 (call (.ref f) [.ref x, b]) (fun v s' => ∃ r, v = .bool r ∧ Q (.bool (!r)) s') E s) : wpAny (model prog w) A (richCompare .NotEq (.ref x) b) Q E s := by
  have X := X₀.keeps F0.keep
  have one : wpAny (model prog w) A (tryCompare (.ref x) (cmpInfo .NotEq).2.1 b) (fun r s' => ∃ v, r = some v ∧ Q v s') E s := by
    unfold tryCompare
    refine wpAny_bind (ifBound_B X I hn2 (F.cmp_object.ne.bind _) (wpAny_call (codeAny_call_builtin F.cmp_object.ne.plain F.cmpEntry_ne (check_ne X I hm (ne_entry (A := A.in1) hu X I hs hf (wpAny_mono h (fun v s' hv => ?_) fun _ _ e => e))))))
    obtain ⟨r, rfl, hq⟩ := hv
    first | exact ⟨r, rfl, wpAny_pure ⟨_, rfl, hq⟩⟩ | exact ⟨r, rfl, ⟨_, rfl, hq⟩⟩
  unfold richCompare
  simp only [oneThing_ref]
  refine wpAny_holding (wpAny_bind (wpAny_cRoomFor (Nat.lt_of_succ_lt hu) ?_))
  refine wpAny_bind (I.type.here (wpAny_bind (hb.here ?_)))
  split
  · rename_i q
    have e : subIn K tb (.ref C) = some false := by
      rcases Bool.or_eq_true_iff.mp hn with e | e
      · rw [beq_iff_eq.mp e] at q; simp at q
      · exact beq_iff_eq.mp e
    refine wpAny_bind ((looks_subIn X e).here ?_)
    simp only [Bool.false_eq_true, if_false]
    refine wpAny_bind (wpAny_mono one (fun r s' z => ?_) fun _ _ e => e)
    obtain ⟨v, rfl, hq⟩ := z
    exact wpAny_pure hq
  · refine wpAny_bind (wpAny_pure ?_)
    simp only [Bool.false_eq_true, if_false]
    refine wpAny_bind (wpAny_mono one (fun r s' z => ?_) fun _ _ e => e)
    obtain ⟨v, rfl, hq⟩ := z
    exact wpAny_pure hq
end

/-! ### the rule -/
theorem nf_ty {K : Frag} {C : Addr} {T : String} (h3 : (fastFind? T).isSome = true := by decide +kernel) : notFirst K C (.type T) = true := by
  unfold notFirst
  rw [Bool.or_eq_true]
  right
  show ((fastFind? T).map (·.mro.map Value.type)).map (·.contains (Value.ref C)) == some false
  cases q : fastFind? T with
  | none => rw [q] at h3; cases h3
  | some m =>
    show (some ((m.mro.map Value.type).contains (Value.ref C)) == some false) = true
    rw [noref]; rfl
theorem nf_self {K : Frag} {C : Addr} : notFirst K C (.ref C) = true := by
  unfold notFirst
  rw [ref_beq, decide_eq_true rfl]; rfl
def okO (cn : Nat) : D → Prop
  | .non => True
  | .bl _ => True
  | .int _ => True
  | .str _ => True
  | .tup _ => True
  | .lst _ => True
  | .dic _ => True
  | .obj k _ => k = cn
  | _ => False
def spOq (cn : Nat) (s1 s2 : Sps) : Sps := fun ds Qd xd => match ds with
  | [.obj k os, d2] => if k = cn then okO cn d2 ∧ s1 [.obj k os, d2] Qd xd else s2 [.obj k os, d2] Qd xd
  | _ => False
def eqS (sp : Sps) : Sps := fun ds Qd xd => sp ds (fun d _ => match d with
  | .bl b => Qd (.bl b) false
  | _ => False) (fun _ => False)
def neS (sp : Sps) : Sps := fun ds Qd xd => sp ds (fun d _ => match d with
  | .bl b => Qd (.bl (!b)) false
  | _ => False) (fun _ => False)
/-- a comparison whose left side may be an instance -/
def dOpO (f : F2) (so : Sps) (ta tb : RE) : RE := fun x ρ Q => ta x ρ fun d1 _ ρ1 => tb x ρ1 fun d2 g2 ρ2 => match d1 with
  | .obj k os => so [.obj k os, d2] (fun d o => Q d (tagO o) (leak d2 g2 ρ2)) (fun _ => False)
  | d1 => f d1 d2 fun d g => Q d g ρ2
def rQD (T : Tx) (f : F2) (so : Sps) : R2 := fun x y H Q => r2D T f x y H Q ∨ spD T 2 so [x, y] H Q fun _ _ _ => False
section
variable {T : Tx} {W : WX} {f : F2} {so : Sps} {ta tb : RE}
theorem le_opO : ∀ σ H Q', liftE T W (dOpO f so ta tb) σ H Q' → tOp (rQD T f so) (liftE T W ta) (liftE T W tb) σ H Q' := by
  rintro σ H Q' ⟨c, B, ρ, x, Q, R, X, h, q⟩
  refine ⟨c, B, ρ, x, _, R, X, h, fun d1 g1 ρ1 v1 B1 H1 h1 e1 k1 R1 t1 => ⟨c, B1, ρ1, x, _, R1, X.up e1, h1, fun d2 g2 ρ2 v2 B2 H2 h2 e2 k2 R2 t2 => ?_⟩⟩
  have pl : (f d1 d2 fun d g => Q d g ρ2) → rQD T f so v1 v2 H2 Q' := fun h2 => .inl ⟨c, B2, d1, d2, _, R2.ex, (t1.tm R1).mono e2 k2, t2.tm R2, h2, fun d g v H' hq r => res_to R2 (fun d g ρ' v B' H' hQ e k R' t => q d g ρ' v B' H' hQ ((e1.trans e2).trans e) ((k1.trans k2).trans k) R' t) hq r⟩
  cases d1
  case obj k os =>
    obtain ⟨B3, e3, R3, n3⟩ := leak_ok R2 t2
    have n1 := ((t1.tm R1).denO).mono (e2.trans e3)
    exact .inr (spD_at (W := fun _ _ _ _ => False) (x := noX) R3 XW.no (.cons n1 (.cons n3 .nil)) rfl h2 fun d g ρ' v B' H' a1 a2 a3 a4 a5 => q _ _ _ _ B' H' a1 ((e1.trans (e2.trans e3)).trans a2) ((k1.trans k2).trans a3) a4 a5)
  all_goals exact pl h2
end
section
variable {X : Cx} {T : Tx} {k cn : Nat} {f : Addr} {fd : FuncData} {ps : List Str} {sp s2 : Sps} {f0 : F2} {op : CmpOp}
theorem oq_none (h : OpR X (compareOp op) (r2D T f0)) : OpR X (compareOp op) (rQD T f0 spNone) := by
  intro pins s σ H x y v u Q I rx ry hq
  rcases hq with hq | ⟨c, B, ds, Qd, xd, _, _, _, _, z, _⟩
  · exact h pins s σ H x y v u Q I rx ry hq
  · exact z.elim
/-- an own def called with two things, from below -/
theorem own_call2 {A : Around} {sp : Sp} {pins : List (Addr × Obj)} {σ : L2.St} {H : Hp} {s : Shared} {x y : V} {v u : Value} {Q : VK} (F : FnG X.prog X.w X.K X.mg X.base k f fd ps sp) (hr : Room k A) (hg : A.guards = some []) (e0 : Env0 X.prog X.w X.K X.mg X.base A X.stack s H) (hb : KB X.K fd ps 2 []) (I : Inv X pins σ H s) (rx : L2.RelV x v) (ry : L2.RelV y u) (h : sp [x, y] H Q fun _ _ _ => False) :
    wpAny (model X.prog X.w) A (call (.ref f) [v, u]) (fun r s' => ∃ v H', Inv X pins σ H' s' ∧ L2.RelV v r ∧ Q v H') X.xe s := by
  refine wpAny_call (codeAny_mono (F.run A X.stack s H ⟨[v, u], []⟩ [v, u] [x, y] Q _ hr hg e0 (hb _ [v, u] [] I.kIn rfl rfl) (.cons rx (.cons ry .nil)) h) fun r s' hq => ?_)
  cases r with
  | error e =>
    obtain ⟨_, _, _, _, _, _, _, _, _, _, _, _, z⟩ := hq
    exact z.elim
  | ok fl =>
    cases fl with
    | ret u => exact I.after hq
    | next => exact False.elim hq
    | brk => exact False.elim hq
    | cont => exact False.elim hq
/-- the class of what stands on the right -/
theorem right_ty {pins : List (Addr × Obj)} {σ : L2.St} {H B : Hp} {s : Shared} {c : Dx T} {y : V} {u : Value} {d2 : D} (hK : X.K = T.K) (I : Inv X pins σ H s) (ry : L2.RelV y u) (ex : Ex B H) (n : Den c B y d2) (ok : okO cn d2) :
    ∃ tb, Looks (model X.prog X.w) s.heap (typeOf u) tb ∧ notFirst X.K (T.cl cn) tb = true := by
  have go : ∀ t : String, (fastFind? t).isSome = true → TyX X.K H y (.type t) → ∃ tb, Looks (model X.prog X.w) s.heap (typeOf u) tb ∧ notFirst X.K (T.cl cn) tb = true := fun t ht ty => by
    obtain ⟨P, kx, hP, _⟩ := kit_of I ry ty
    exact ⟨_, kx.ty _ _ I.kIn hP, nf_ty ht⟩
  cases n with
  | non => exact go "NoneType" (by decide +kernel) (.base .non)
  | bl b => exact go "bool" (by decide +kernel) (.base (.bl _))
  | int i => exact go "int" (by decide +kernel) (.base (.int _))
  | str x => exact go "str" (by decide +kernel) (.base (.str _))
  | tup h r =>
    refine go "tuple" (by decide +kernel) ?_
    rw [hK]
    rcases ex.sqT h with (h | ⟨o, h⟩) | ⟨o, _, _, h, hc, _⟩
    · exact .base (.tup h)
    · exact .fTuple h
    · exact .kTuple h hc
  | lst h n r => exact go "list" (by decide +kernel) (.base (.lst (ex _ _ h)))
  | dic h n r => exact go "dict" (by decide +kernel) (.base (.dK (ex _ _ h)))
  | obj h r =>
    obtain rfl : _ = cn := ok
    obtain rfl : u = Value.ref _ := ry
    obtain ⟨_, od, _, J, _⟩ := SlX.slt_inst I (ex.slt h)
    exact ⟨_, J.type, nf_self⟩
  | ptr h => exact ok.elim
  | adr => exact ok.elim
  | scr h => exact ok.elim
  | tpz h h1 h2 r => exact ok.elim
theorem oq_eq (F : FnG X.prog X.w X.K X.mg X.base k f fd ps (spD T 2 sp)) (hr : Room k X.A) (hg : X.A.guards = some []) (hb : KB X.K fd ps 2 []) (hs : findIn X.K (.ref (T.cl cn)) "__eq__" = some (some (.ref f))) (hf : isFn X.K (.ref f) = true)
    (h : OpR X (compareOp .Eq) (rQD T f0 s2)) (hK : X.K = T.K := by rfl) : OpR X (compareOp .Eq) (rQD T f0 (spOq cn (eqS sp) s2)) := by
  intro pins s σ H x y v u Q I rx ry hq
  rcases hq with hq | ⟨c, B, ds, Qd, xd, h0, ho, r, hl, hs', q, qx⟩
  · exact h pins s σ H x y v u Q I rx ry (.inl hq)
  match ds, hl, r with
  | [d1, d2], _, .cons n1 (.cons n2 .nil) =>
    unfold spOq at hs'
    split at hs'
    · rename_i z os d2' e
      cases e
      by_cases ek : z = cn
      · subst ek
        rw [if_pos rfl] at hs'
        obtain ⟨tb, hty, hnf⟩ := right_ty hK I ry ho.ex n2 hs'.1
        cases n1 with
        | @obj a dx xs' _ _ sl r1 =>
          obtain rfl : v = Value.ref a := rx
          obtain ⟨_, od, _, J, _⟩ := SlX.slt_inst I (ho.ex.slt sl)
          obtain ⟨m, hF⟩ := I.fr
          refine PySem.W.cmp_ofEq (cmp_K (op := .Eq) hr.units0 hF I.ok.mod.kin J hty hnf hs hf (wpAny_mono (own_call2 (x := V.ref a) (Q := fun v H' => ∃ b, v = .bl b ∧ Q (.bl b) H') F hr hg I.env0 hb I rfl ry ?_) (fun r s' hv => ?_) fun _ _ e => e))
          · refine ⟨c, B, _, _, _, h0, ho, .cons (.obj sl r1) (.cons n2 .nil), rfl, hs'.2, fun d o v B' H' hq eb kp ho' ro => ?_, fun e cls dd B' H' z => z.elim⟩
            cases d <;> first | exact hq.elim | skip
            case bl b =>
              refine ⟨b, ?_, q _ _ _ B' H' hq eb kp ho' (.p (.bl b))⟩
              cases ro with
              | p h => cases h; rfl
              | f _ h => cases h
          · obtain ⟨v, H', I', rv, b, rfl, q⟩ := hv
            obtain rfl : r = Value.bool b := rv
            exact ⟨.bl b, H', I', rfl, q⟩
      · rw [if_neg ek] at hs'
        exact h pins s σ H x y v u Q I rx ry (.inr ⟨c, B, _, Qd, xd, h0, ho, .cons n1 (.cons n2 .nil), rfl, hs', q, qx⟩)
    · exact hs'.elim
theorem oq_ne (F : FnG X.prog X.w X.K X.mg X.base k f fd ps (spD T 2 sp)) (hr : Room (k + 1) X.A) (hg : X.A.guards = some []) (hb : KB X.K fd ps 2 []) (hs : findIn X.K (.ref (T.cl cn)) "__eq__" = some (some (.ref f))) (hf : isFn X.K (.ref f) = true) (hne : findIn X.K (.ref (T.cl cn)) "__ne__" = some (some (.builtin "object.__ne__"))) (hm : mroIn X.K (T.cl cn) (.type "object") = some true)
    (h : OpR X (compareOp .NotEq) (rQD T f0 s2)) (hK : X.K = T.K := by rfl) : OpR X (compareOp .NotEq) (rQD T f0 (spOq cn (neS sp) s2)) := by
  intro pins s σ H x y v u Q I rx ry hq
  rcases hq with hq | ⟨c, B, ds, Qd, xd, h0, ho, r, hl, hs', q, qx⟩
  · exact h pins s σ H x y v u Q I rx ry (.inl hq)
  match ds, hl, r with
  | [d1, d2], _, .cons n1 (.cons n2 .nil) =>
    unfold spOq at hs'
    split at hs'
    · rename_i z os d2' e
      cases e
      by_cases ek : z = cn
      · subst ek
        rw [if_pos rfl] at hs'
        obtain ⟨tb, hty, hnf⟩ := right_ty hK I ry ho.ex n2 hs'.1
        cases n1 with
        | @obj a dx xs' _ _ sl r1 =>
          obtain rfl : v = Value.ref a := rx
          obtain ⟨_, od, _, J, _⟩ := SlX.slt_inst I (ho.ex.slt sl)
          obtain ⟨m, hF⟩ := I.fr
          refine PySem.W.cmp_ofNotEq (ne_K (hu_of hr) hF I.ok.mod.kin J hty hnf hm hne hs hf (wpAny_mono (own_call2 (x := V.ref a) (Q := fun v H' => ∃ b, v = .bl b ∧ Q (.bl (!b)) H') F hr.in1 hg I.env0.in1 hb I rfl ry ?_) (fun r s' hv => ?_) fun _ _ e => e))
          · refine ⟨c, B, _, _, _, h0, ho, .cons (.obj sl r1) (.cons n2 .nil), rfl, hs'.2, fun d o v B' H' hq eb kp ho' ro => ?_, fun e cls dd B' H' z => z.elim⟩
            cases d <;> first | exact hq.elim | skip
            case bl b =>
              refine ⟨b, ?_, q _ _ _ B' H' hq eb kp ho' (.p (.bl (!b)))⟩
              cases ro with
              | p h => cases h; rfl
              | f _ h => cases h
          · obtain ⟨v, H', I', rv, b, rfl, q⟩ := hv
            obtain rfl : r = Value.bool b := rv
            exact ⟨b, rfl, .bl (!b), H', I', rfl, q⟩
      · rw [if_neg ek] at hs'
        exact h pins s σ H x y v u Q I rx ry (.inr ⟨c, B, _, Qd, xd, h0, ho, .cons n1 (.cons n2 .nil), rfl, hs', q, qx⟩)
    · exact hs'.elim
end
section
variable {X : Cx} {T : Tx} {W : WX} {f : F2} {so : Sps} {a b : Expr} {ra rb : RE} {pos : Pos} {op : CmpOp}
theorem lt_opO : ∀ σ H Q', liftT T W (dTest (dOpO f so ra rb)) σ H Q' → tTest (tOp (rQD T f so) (liftE T W ra) (liftE T W rb)) σ H Q' := by
  rintro σ H Q' ⟨c, B, ρ, x, Q, R, X, h, q⟩
  refine le_opO σ H _ ⟨c, B, ρ, x, _, R, X, h, fun d g ρ' v B' H' hd e k R' t => ?_⟩
  cases d <;> first | exact hd.elim | skip
  case bl b =>
    have ev := (t.tm R').bl_
    subst ev
    exact ⟨b, rfl, q _ _ B' H' hd e k R'⟩
theorem qe_cmpO (ho : OpR X (compareOp op) (rQD T f so)) (ha : PE X a (liftE T W ra)) (hb : PE X b (liftE T W rb)) (hm : behindInMarks op b = false := by first | exact nobehind _ (by decide) (by decide) | rfl) :
    PE X (.Compare a [op] [b] pos) (liftE T W (dOpO f so ra rb)) := (pe_cmpR ho ha hb hm).imp le_opO
theorem qt_cmpO (ho : OpR X (compareOp op) (rQD T f so)) (ha : PE X a (liftE T W ra)) (hb : PE X b (liftE T W rb)) (hm : behindInMarks op b = false := by first | exact nobehind _ (by decide) (by decide) | rfl) :
    PT X (.Compare a [op] [b] pos) (liftT T W (dTest (dOpO f so ra rb))) := (pt_cmpR ho ha hb hm).imp lt_opO
@[simp] theorem o_opO {x : XQ} {ρ : Env} {Q : EQ} : dOpO f so ra rb x ρ Q = ra x ρ fun d1 _ ρ1 => rb x ρ1 fun d2 g2 ρ2 => match d1 with
  | .obj k os => so [.obj k os, d2] (fun d o => Q d (tagO o) (leak d2 g2 ρ2)) (fun _ => False)
  | d1 => f d1 d2 fun d g => Q d g ρ2 := rfl
end
end Dc
set_option maxHeartbeats 1000000
/-! Data calculus 21: x += e, x -= e of ints. -/
namespace Dc
open PySem L2 PyProof.Rows PySem.W

def augI (f : Int → Int → Int) : D → D → (D → Prop) → Prop
  | .int i, .int j, k => k (.int (f i j))
  | _, _, _ => False
def sAug (i : Nat) (f : Int → Int → Int) (te : RE) : RS := fun k ρ => slot ρ i fun d0 _ => te k.ex ρ fun d _ ρ1 => augI f d0 d fun d' => k.nx (ρ1.set i (.sh d'))
section
variable {T : Tx} {W : WX} {te : RE}
theorem ls_aug {i : Nat} {f : Int → Int → Int} : ∀ Dn σ H, liftS T W (sAug i f te) Dn σ H → tAug i (liftE T W te) (ipI f) Dn σ H := by
  rintro Dn σ H ⟨c, B, ρ, k, R, X, h, n, r, bk, ct⟩
  unfold sAug slot at h
  have key : ∀ (d0 : D), (te k.ex ρ fun d _ ρ1 => augI f d0 d fun d' => k.nx (ρ1.set i (.sh d'))) → ∀ x, σ[i]? = some (some x) → (∀ i0, d0 = .int i0 → x = .int i0) → tAug i (liftE T W te) (ipI f) Dn σ H := fun d0 h x hx hv => by
    refine ⟨x, hx, c, B, ρ, _, _, R, X, h, fun d g ρ1 v B1 H1 q e1 _ R1 t => ?_⟩
    cases d0 <;> try exact q.elim
    cases d <;> try exact q.elim
    rename_i i0 j0
    obtain rfl := hv i0 rfl
    have ev := (t.tm R1).int_
    subst ev
    exact ⟨i0, j0, rfl, rfl, n _ _ B1 H1 q e1 (R1.setSh i (.int _))⟩
  split at h
  · rename_i d e
    have hi : i < σ.length := by rw [R.len]; exact (List.getElem?_eq_some_iff.mp e).1
    obtain ⟨o, ho⟩ : ∃ o, σ[i]? = some o := ⟨σ[i], by simp [hi]⟩
    have s := R.sl i o _ ho e
    cases s with
    | @sh v _ s => exact key d h v ho fun i0 e0 => by subst e0; cases s; rfl
  · rename_i d e
    have hi : i < σ.length := by rw [R.len]; exact (List.getElem?_eq_some_iff.mp e).1
    obtain ⟨o, ho⟩ : ∃ o, σ[i]? = some o := ⟨σ[i], by simp [hi]⟩
    have s := R.sl i o _ ho e
    cases s with
    | own m o => exact key d h _ ho fun i0 e0 => by subst e0; cases o
  · exact h.elim
end
section
variable {X : Cx} {T : Tx} {W : WX} {e : Expr} {re : RE} {pos pos' : Pos} {x : Str}
theorem qs_augA (i : Nat) (hN : X.N.Nodup) (he : PE X e (liftE T W re)) (hi : X.N[i]? = some x := by rfl) (hx : Loc X.env.scope x := by first | exact Or.inl rfl | exact Or.inr rfl) (hf : X.fn x = true ∨ X.env.scope.names.lookup x = some .local := by first | exact .inl rfl | exact .inr rfl | assumption) :
    PS X (.AugAssign (.Name x pos') .Add e pos) (liftS T W (sAug i (fun i j => i + j) re)) := (ps_aug hN hi hx he ip_add hf).imp ls_aug
theorem qs_augS (i : Nat) (hN : X.N.Nodup) (he : PE X e (liftE T W re)) (hi : X.N[i]? = some x := by rfl) (hx : Loc X.env.scope x := by first | exact Or.inl rfl | exact Or.inr rfl) (hf : X.fn x = true ∨ X.env.scope.names.lookup x = some .local := by first | exact .inl rfl | exact .inr rfl | assumption) :
    PS X (.AugAssign (.Name x pos') .Sub e pos) (liftS T W (sAug i (fun i j => i - j) re)) := (ps_aug hN hi hx he ip_sub hf).imp ls_aug
@[simp] theorem o_aug {i : Nat} {f : Int → Int → Int} {te : RE} {k : Kd} {ρ : Env} : sAug i f te k ρ = slot ρ i fun d0 _ => te k.ex ρ fun d _ ρ1 => augI f d0 d fun d' => k.nx (ρ1.set i (.sh d')) := rfl
@[simp] theorem o_augI {f : Int → Int → Int} {i j : Int} {k : D → Prop} : augI f (.int i) (.int j) k = k (.int (f i j)) := rfl
end
end Dc
set_option maxHeartbeats 1000000
/-! Data calculus 22: several targets, own things' items among them. -/
namespace Dc
open PySem L2 PyProof.Rows PySem.W

abbrev RH := XQ → D → Env → (Env → Prop) → Prop
abbrev RHs := XQ → List D → Env → (Env → Prop) → Prop
def liftH (T : Tx) (W : WX) (h : RH) : TG := fun v σ H Q' => ∃ c : Dx T, ∃ B ρ d x Q, Rel c σ B H ρ ∧ XW c W B x ∧ Den c B v d ∧ h x d ρ Q ∧
  ∀ ρ' σ' B' H', Q ρ' → Ex B B' → Rel c σ' B' H' ρ' → Q' σ' H'
def liftHs (T : Tx) (W : WX) (h : RHs) : TGs := fun vs σ H Q' => ∃ c : Dx T, ∃ B ρ ds x Q, Rel c σ B H ρ ∧ XW c W B x ∧ Dens c B vs ds ∧ h x ds ρ Q ∧
  ∀ ρ' σ' B' H', Q ρ' → Ex B B' → Rel c σ' B' H' ρ' → Q' σ' H'
def hN (i : Nat) : RH := fun _ d ρ Q => i < ρ.length ∧ Q (ρ.set i (.sh d))
def hSub (i : Nat) (ti : RE) : RH := fun x d ρ Q => ownIn ρ i fun _ => ti x ρ fun b _ ρ2 => ownIn ρ2 i fun o => putAt o b d fun o' => Q (ρ2.set i (.own o'))
def hsNil : RHs := fun _ ds ρ Q => match ds with
  | [] => Q ρ
  | _ => False
def hsCons (g : RH) (gs : RHs) : RHs := fun x ds ρ Q => match ds with
  | d :: r => g x d ρ fun ρ1 => gs x r ρ1 Q
  | _ => False
def hT (n : Nat) (gs : RHs) : RH := fun x d ρ Q => match d with
  | .tup ds => ds.length = n ∧ gs x ds ρ Q
  | _ => False
def sAsgH (te : RE) (g : RH) : RS := fun k ρ => te k.ex ρ fun d t ρ1 => g k.ex d (leak d t ρ1) k.nx
section
variable {T : Tx} {W : WX} {te : RE}
theorem lh_name {i : Nat} : ∀ v σ H Q', liftH T W (hN i) v σ H Q' → gName i v σ H Q' := by
  rintro v σ H Q' ⟨c, B, ρ, d, x, Q, R, X, n, h, q⟩
  exact q _ _ B H h.2 Ex.rfl' (R.setSh i n)
theorem lh_sub {i : Nat} {ti : RE} : ∀ v σ H Q', liftH T W (hSub i ti) v σ H Q' → gSub (tVar i) (liftE T W ti) (rPutD T) v σ H Q' := by
  rintro v σ H Q' ⟨c, B, ρ, d, x, Q, R, X, n, h, q⟩
  obtain ⟨a, d0, s1, s2, h1, ow, m⟩ := ownIn_at R h
  refine ⟨.ref a, s1, c, B, _, _, _, R, X, h1, fun b gb ρ3 w B3 H3 h3 e3 k3 R3 t3 => ?_⟩
  obtain ⟨a', d1, s3, s4, h3, ow3, m3⟩ := ownIn_at R3 h3
  rw [s1] at s3
  injection s3 with s3; injection s3 with s3; injection s3 with s3
  subst s3
  exact ⟨c, B3, a, d1, b, d, _, rfl, R3.ex, ow3, t3.tm R3, n.mono e3, h3, fun d' u hq ow4 => q _ σ B3 _ hq e3 (R3.putOwn s1 s4 ow4)⟩
theorem lhs_nil : ∀ v σ H Q', liftHs T W hsNil v σ H Q' → gNil v σ H Q' := by
  rintro v σ H Q' ⟨c, B, ρ, ds, x, Q, R, X, n, h, q⟩
  cases n with
  | nil => exact ⟨rfl, q _ _ B H h Ex.rfl' R⟩
  | cons _ _ => exact h.elim
theorem lhs_cons {g : RH} {gs : RHs} : ∀ v σ H Q', liftHs T W (hsCons g gs) v σ H Q' → gCons (liftH T W g) (liftHs T W gs) v σ H Q' := by
  rintro v σ H Q' ⟨c, B, ρ, ds, x, Q, R, X, n, h, q⟩
  cases n with
  | nil => exact h.elim
  | cons n1 n2 =>
    refine ⟨_, _, rfl, c, B, ρ, _, x, _, R, X, n1, h, fun ρ1 σ1 B1 H1 h1 e1 R1 => ?_⟩
    exact ⟨c, B1, ρ1, _, x, Q, R1, X.up e1, n2.mono e1, h1, fun ρ' σ' B' H' hq e R' => q ρ' σ' B' H' hq (e1.trans e) R'⟩
theorem lh_tup {gs : RHs} {n : Nat} : ∀ v σ H Q', liftH T W (hT n gs) v σ H Q' → gTup T.K n (liftHs T W gs) v σ H Q' := by
  rintro v σ H Q' ⟨c, B, ρ, d, x, Q, R, X, m, h, q⟩
  cases m <;> first | exact h.elim | skip
  case tup a xs ds hs r => exact ⟨a, xs, rfl, R.ex.sqT hs, by rw [r.length]; exact h.1, c, B, ρ, ds, x, Q, R, X, r, h.2, q⟩
theorem ls_asgH {g : RH} : ∀ Dn σ H, liftS T W (sAsgH te g) Dn σ H → tAsg (liftE T W te) (liftH T W g) Dn σ H := by
  rintro Dn σ H ⟨c, B, ρ, k, R, X, h, n, r, bk, ct⟩
  refine ⟨c, B, ρ, _, _, R, X, h, fun d g ρ1 v B1 H1 q e1 _ R1 t => ?_⟩
  obtain ⟨B2, e2, R2, n2⟩ := leak_ok R1 t
  exact ⟨c, B2, _, d, _, _, R2, (X.up e1).up e2, n2, q, fun ρ' σ' B' H' q e R' => n ρ' σ' B' H' q ((e1.trans e2).trans e) R'⟩
end
section
variable {X : Cx} {T : Tx} {W : WX} {e : Expr} {te : RE} {pos : Pos}
theorem qs_asgH {tg : Expr} {g : RH} (he : PE X e (liftE T W te)) (hg : PG X tg (liftH T W g)) (hs : swapsWithSole [tg] e pos.line X.env = pure false := by rfl) (hw : swappedStores [tg] e X.env = pure none := by rfl)
    (h1 : (assignEach [tg] X.env).map (·.2) = [assign tg X.env] := by rfl) : PS X (.Assign [tg] e pos) (liftS T W (sAsgH te g)) := (ps_asg he hg hs hw h1).imp ls_asgH
theorem qh_name (i : Nat) {x : Str} (hN : X.N.Nodup) (hi : X.N[i]? = some x := by rfl) (hx : Loc X.env.scope x := by first | exact Or.inl rfl | exact Or.inr rfl) (hf : X.fn x = true ∨ X.env.scope.names.lookup x = some .local := by first | exact .inl rfl | exact .inr rfl | assumption) :
    PG X (.Name x pos) (liftH T W (Dc.hN i)) := (pg_name hN hi hx hf).imp lh_name
theorem qh_sub (i : Nat) {x : Str} {np tp : Pos} {b : Expr} {ti : RE} {n : Nat} (hr : Room n X.A) (hi : PE X b (liftE T W ti)) (hN : X.N[i]? = some x := by rfl)
    (hv : Vis X.env.scope x := by first | exact Or.inl rfl | exact Or.inr (Or.inl rfl) | exact Or.inr (Or.inr rfl)) (hd : (x == ("__debug__" : Str)) = false := by decide) (hcd : (x == ("__classdict__" : Str)) = false := by decide)
    (ha : ∀ v, assign (.Subscript (.Name x np) b tp) X.env v = (do
      let ov ← holding [v] (eval (.Name x np) X.env)
      let iv ← holding [v, ov] (eval b X.env)
      standAt tp
      holding [v, ov, iv] (setItem ov iv v)
      release [v, ov, iv] []) := by intro _; rfl) : PG X (.Subscript (.Name x np) b tp) (liftH T W (hSub i ti)) := (pg_sub (pe_var hN hv hd hcd) hi (psetd hr) ha).imp lh_sub
theorem qhs_nil : PGs X [] (liftHs T W hsNil) := pgs_nil.imp lhs_nil
theorem qhs_cons {tg : Expr} {tgs : List Expr} {g : RH} {gs : RHs} (h1 : PG X tg (liftH T W g)) (h2 : PGs X tgs (liftHs T W gs))
    (hs : (assignEach (tg :: tgs) X.env).map (·.2) = assign tg X.env :: (assignEach tgs X.env).map (·.2) := by rfl) : PGs X (tg :: tgs) (liftHs T W (hsCons g gs)) := (pgs_cons h1 h2 hs).imp lhs_cons
theorem qh_tup {tgs : List Expr} {gs : RHs} {k n : Nat} (hc : X.calm = true) (h : PGs X tgs (liftHs T W gs)) (hK : X.K = T.K := by rfl) (hn : (assignEach tgs X.env).length = n := by rfl) (hst : (assignEach tgs X.env).findIdx? (·.1) = none := by rfl) :
    PG X (.Tuple tgs k pos) (liftH T W (hT n gs)) := (pg_tup hc h hn hst).imp (by rw [hK]; exact lh_tup)
end
section
variable {x : XQ} {d : D} {ds : List D} {ρ : Env} {q : Env → Prop} {g : RH} {gs : RHs} {i n : Nat} {ti te : RE} {k : Kd}
@[simp] theorem o_hN : hN i x d ρ q = (i < ρ.length ∧ q (ρ.set i (.sh d))) := rfl
@[simp] theorem o_hSub : hSub i ti x d ρ q = ownIn ρ i fun _ => ti x ρ fun b _ ρ2 => ownIn ρ2 i fun o => putAt o b d fun o' => q (ρ2.set i (.own o')) := rfl
@[simp] theorem o_hsNil : hsNil x [] ρ q = q ρ := rfl
@[simp] theorem o_hsCons : hsCons g gs x (d :: ds) ρ q = g x d ρ fun ρ1 => gs x ds ρ1 q := rfl
@[simp] theorem o_hT : hT n gs x (.tup ds) ρ q = (ds.length = n ∧ gs x ds ρ q) := rfl
@[simp] theorem o_asgH : sAsgH te g k ρ = te k.ex ρ fun d t ρ1 => g k.ex d (leak d t ρ1) k.nx := rfl
end
/-! found.append(rest.pop(e)) -/
def sWrPop (i j : Nat) (f g : FW) (ta : RA) : RS := fun k ρ => ownIn ρ i fun di => isLst di ∧ ownIn ρ j fun dj => isLst dj ∧ ta k.ex ρ fun ds ρ1 => ownIn ρ1 j fun dj => g dj ds fun dj' r => ownIn (ρ1.set j (.own dj')) i fun di => f di [r] fun di' _ => k.nx ((ρ1.set j (.own dj')).set i (.own di'))
theorem ls_wrPop {T : Tx} {W : WX} {i j : Nat} {f g : FW} {ta : RA} : ∀ Dn σ H, liftS T W (sWrPop i j f g ta) Dn σ H → tDrop (tBM T.K "list" (rWD T f) (tVar i) (tCons (tBM T.K "list" (rWD T g) (tVar j) (liftA T W ta)) tNil)) Dn σ H := by
  rintro Dn σ H ⟨c, B, ρ, k, R, X, h, n, r, bk, ct⟩
  obtain ⟨a, d, h1, h2, ⟨hl, h⟩, ow, m⟩ := ownIn_at R h
  refine ⟨.ref a, h1, isLst_ty ow hl, ?_⟩
  refine wr_core (i := j) (Q := fun r ρ' => ownIn ρ' i fun di => f di [r] fun di' _ => k.nx (ρ'.set i (.own di'))) R X h fun r v ρ' B' H' hq e R' nv => ?_
  obtain ⟨a', d1, g2, g3, g4, ow1, m1⟩ := ownIn_at R' hq
  rw [h1] at g2
  injection g2 with g2; injection g2 with g2; injection g2 with g2
  subst g2
  exact ⟨c, B', a, d1, [r], _, rfl, R'.ex, ow1, .cons nv .nil, g4, fun d' r2 v2 o hq2 ow2 n2 => n _ σ B' _ hq2 e (R'.putOwn h1 g3 ow2)⟩
@[simp] theorem o_wrPop {i j : Nat} {f g : FW} {ta : RA} {k : Kd} {ρ : Env} : sWrPop i j f g ta k ρ = ownIn ρ i fun di => isLst di ∧ ownIn ρ j fun dj => isLst dj ∧ ta k.ex ρ fun ds ρ1 => ownIn ρ1 j fun dj => g dj ds fun dj' r => ownIn (ρ1.set j (.own dj')) i fun di => f di [r] fun di' _ => k.nx ((ρ1.set j (.own dj')).set i (.own di')) := rfl
section
variable {X : Cx} {T : Tx} {W : WX} {e : Expr} {es : List Expr} {rs : RA} {pos apos cpos apos2 cpos2 : Pos}
theorem qs_wrPop (i j : Nat) {x y : Str} {np np2 : Pos} {name name2 : Str} {id id2 : String} {f g : FW} (sl : Slot "list" name id) (hty : typeOf (.builtin id) = pure (.type "method_descriptor")) (hm : MtR X id (rWD T f)) (sl2 : Slot "list" name2 id2) (hty2 : typeOf (.builtin id2) = pure (.type "method_descriptor")) (hm2 : MtR X id2 (rWD T g))
    (ha : PA X (e :: es) (liftA T W rs)) (hK : X.K = T.K := by rfl) (hN : X.N[i]? = some x := by rfl) (hN2 : X.N[j]? = some y := by rfl)
    (hv : Vis X.env.scope x := by first | exact Or.inl rfl | exact Or.inr (Or.inl rfl) | exact Or.inr (Or.inr rfl)) (hd : (x == ("__debug__" : Str)) = false := by decide) (hcd : (x == ("__classdict__" : Str)) = false := by decide)
    (hv2 : Vis X.env.scope y := by first | exact Or.inl rfl | exact Or.inr (Or.inl rfl) | exact Or.inr (Or.inr rfl)) (hd2 : (y == ("__debug__" : Str)) = false := by decide) (hcd2 : (y == ("__classdict__" : Str)) = false := by decide)
    (hbase : attributeBase (.Name x np) name X.env (eval (.Name x np) X.env) = eval (.Name x np) X.env := by rfl) (hbase2 : attributeBase (.Name y np2) name2 X.env (eval (.Name y np2) X.env) = eval (.Name y np2) X.env := by rfl)
    (hfew2 : ((backTo cpos2 (starEach (e :: es) X.env)).all (fun x => !x.1) && (backToKw cpos2 (keywordEach [] X.env)).all (fun x => x.1.isSome)
      && decide ((e :: es).length + ([] : List Keyword).length + (if ([] : List Keyword).isEmpty then 0 else 1) < 30)) = true := by rfl)
    (hline2 : (apos2.endLine == cpos2.line) = true := by rfl) (hs2 : starEach (e :: es) X.env = (false, eval e X.env) :: starEach es X.env := by rfl) (hplain2 : (backTo cpos2 (starEach es X.env)).any (·.1) = false := by rfl)
    (hfew : ((backTo cpos (starEach ((.Call (.Attribute (.Name y np2) name2 apos2) (e :: es) [] cpos2) :: []) X.env)).all (fun x => !x.1) && (backToKw cpos (keywordEach [] X.env)).all (fun x => x.1.isSome)
      && decide ([(Expr.Call (.Attribute (.Name y np2) name2 apos2) (e :: es) [] cpos2)].length + ([] : List Keyword).length + (if ([] : List Keyword).isEmpty then 0 else 1) < 30)) = true := by rfl)
    (hline : (apos.endLine == cpos.line) = true := by rfl) (hs : starEach ((.Call (.Attribute (.Name y np2) name2 apos2) (e :: es) [] cpos2) :: []) X.env = (false, eval (.Call (.Attribute (.Name y np2) name2 apos2) (e :: es) [] cpos2) X.env) :: starEach [] X.env := by rfl) (hplain : (backTo cpos (starEach [] X.env)).any (·.1) = false := by rfl)
    (hsw : swapsWith (.Call (.Attribute (.Name x np) name apos) [.Call (.Attribute (.Name y np2) name2 apos2) (e :: es) [] cpos2] [] cpos) none pos.line X.env = pure false := by rfl) :
    PS X (.Expr (.Call (.Attribute (.Name x np) name apos) [.Call (.Attribute (.Name y np2) name2 apos2) (e :: es) [] cpos2] [] cpos) pos) (liftS T W (sWrPop i j f g rs)) :=
  (ps_expr (pe_bm PySem.F.plainAttrs_list sl hty hm (pe_var hN hv hd hcd) (pa_cons (pe_bm PySem.F.plainAttrs_list sl2 hty2 hm2 (pe_var hN2 hv2 hd2 hcd2) ha hbase2 hfew2 hline2 hs2 hplain2) pa_nil hs) hbase hfew hline hs hplain) hsw).imp (by rw [hK]; exact ls_wrPop)
end
end Dc
set_option maxHeartbeats 1000000
/-! Data calculus 23: sorted(.., reverse=True), dicts as they are written. -/
namespace L2
open PySem PySem.Spec PyProof.Rows
section
variable {X : Cx}
theorem cr_sortedDRev {b : Bool} (hcalm : X.calm = true) {pins : List (Addr × Obj)} {s : Shared} {σ : St} {H : Hp} {a : Addr} {kvs : List (Key × V)} {ks : List Int} {Q : VK} (I : Inv X pins σ H s) (hd : Rd H a (.dK kvs)) (hks : kvs.map (·.1) = ks.map Sum.inl)
    (q : ∀ (ys : List Int) (p : Addr), ys.Perm ks → OrdB b ys → H p = none → Q (.ref p) (upd H p (.lst (ys.map V.int)))) : wpAny (model X.prog X.w) X.A (call (.builtin "sorted") [.ref a] [(Str.ofString "reverse", .bool b)]) (EP X pins σ Q) X.xe s := by
  obtain ⟨z, lo, vs, rel, dd⟩ := dk_rd I.hok hd
  obtain ⟨ep, hat⟩ := dd.dictAt
  have hkeys : vs.map (·.1) = ks.map Sum.inl := rel.keys.symm.trans hks
  have hl : vs.length = ks.length := by
    have e := congrArg List.length hkeys
    rw [List.length_map, List.length_map] at e
    exact e
  have hkz : ks.length ≤ sizeLine := by
    have e := congrArg List.length hks
    rw [List.length_map, List.length_map] at e
    omega
  have h16 : vs.length ≤ sizeLine := by omega
  refine call_function_entry_kw PyProof.Rows.kind_sorted PyProof.Rows.plain_sorted PyProof.Rows.entry_sorted (PyProof.Rows.args_sorted_rev _ _) ?_
  unfold Builtin.«sorted»
  refine wpAny_bind (m := checkCount "sorted" 1 1 _) (wpAny_pure ?_)
  refine wpAny_bind (PySem.W.kdu_collect (A := X.A.in1) (PySem.W.kdl_dict (knd := mixKind X.prog X.w) (kvs := vs) (ep := ep) lo) (I.ok.hd hcalm) hat h16 fun h' tk acc hk hacc => ?_)
  have hal : acc.toList.length = ks.length := by rw [Array.length_toList, hacc.1, hl]
  have hS : IntsAre acc.toList ks := ints_each hal fun j v e => by
    obtain ⟨k, x, e1, e2⟩ := hacc.2 j v (by rw [← Array.getElem?_toList]; exact e)
    have e3 : (vs.map (·.1))[j]? = some k := by rw [List.getElem?_map, e1]; rfl
    rw [hkeys, List.getElem?_map] at e3
    cases e4 : ks[j]? with
    | none => rw [e4] at e3; cases e3
    | some y =>
      rw [e4] at e3
      have e5 : Sum.inl y = k := Option.some.inj e3
      subst e5
      rcases keyIs_shape (show keyIs (Sum.inl y) v = true from e2) with ⟨i, t, ek, ev⟩ | ⟨z, t, ek, ev⟩
      · cases ek
        exact ⟨y, t, rfl, ev⟩
      · cases ek
  have I1 : Inv X pins σ H { s with heap := h', toks := tk } := I.kept hk
  have hav : acc.toList.length ≤ sizeLine := by omega
  refine wpAny_bind (wpAny_newList ?_ hav)
  have hoL : (h'.push (seqObj "list" acc.toList.toArray 0)).get? h'.objs.size = some (seqObj "list" acc.toList.toArray 0) := Heap.get?_push_size _ rfl
  show wpAny _ _ _ _ _ { s with heap := h'.push (seqObj "list" acc.toList.toArray 0), toks := tk }
  refine wpAny_bind (wpAny_holding (wpAny_call_entry_kw PyProof.Rows.slot_list_sort ⟨_, hoL, rfl⟩ PyProof.Rows.entry_list_sort
    (SrtR.list_sort_ordR (s := { s with heap := h'.push (seqObj "list" acc.toList.toArray 0), toks := tk }) SrtO.swo_int hoL hav (fun h2 => SrtO.ints_sortable hS h2) fun out h1 h2 => ⟨_, rfl, ?_⟩) (PyProof.Rows.args_list_sort_rev _ _)))
  obtain ⟨ys, g1, g2, g3⟩ := SrtR.ints_outR hS h1 h2
  obtain ⟨e', he'⟩ := PyProof.Rows.sortedHeap_at (vs := acc.toList) (out := if b = true then out.toArray.reverse else out.toArray) hoL
  have hlen : (ys.map V.int).length ≤ sizeLine := by
    rw [List.length_map, g2.length_eq]; exact hkz
  refine wpAny_pure ⟨_, rfl, .ref h'.objs.size, upd H h'.objs.size (.lst (ys.map V.int)), I1.laid (t' := tk) (fun b' u e => ?_) (Nat.le_refl _)
    (show ObjOk X.prog X.w _ _ _ (.lst (ys.map V.int)) from ⟨hlen, _, e', vals_of_ints g1, by rw [Array.toArray_toList]; exact he'⟩), rfl, q ys _ g2 g3 (I1.hok.fresh (Nat.le_refl _))⟩
  have hb : b' < h'.objs.size := Heap.lt_size e
  rw [PyProof.Rows.sortedHeap_old (Nat.ne_of_lt hb) (by rw [size_push']; exact Nat.lt_succ_of_lt hb)]
  exact Heap.get?_push_of_some _ e
end
end L2
namespace Dc
open PySem L2 PyProof.Rows PySem.W
theorem ordB_rev {ys ns : List Int} (p : ys.Perm ns) (o : OrdB true ys) : ys = (sortI ns).reverse := by
  have o : ys.Pairwise (· ≥ ·) := o
  have h1 : ys.reverse.Pairwise (· ≤ ·) := by rw [List.pairwise_reverse]; exact o
  have h2 := sorted_unique h1 (sortI_sorted ns) ((List.reverse_perm _).trans (p.trans (sortI_perm ns).symm))
  rw [← h2, List.reverse_reverse]
def fSortedR : FN
  | [.lst xs], k => ∃ ns : List Int, xs = ns.map D.int ∧ k (.lst ((sortI ns).reverse.map D.int)) .f
  | [.dic kvs], k => ∃ ns : List Int, kvs.map (·.1) = ns.map Sum.inl ∧ k (.lst ((sortI ns).reverse.map D.int)) .f
  | _, _ => False
theorem DenK.keysEq {T : Tx} {c : Dx T} {B : Hp} {xs : List (L2.Key × V)} {ds : List (L2.Key × D)} (r : DenK c B xs ds) : xs.map (·.1) = ds.map (·.1) := by
  induction xs generalizing ds with
  | nil => cases r; rfl
  | cons p xs ih => cases r with | cons h r => simp [ih r]
def rKwT (r : List V → Hp → VK → Prop) : List V → List V → Hp → VK → Prop := fun vs zs H Q => zs = [.bl true] ∧ r vs H Q
section
variable {X : Cx} {T : Tx} {W : WX} {e : Expr} {es : List Expr} {rs : RA} {pos : Pos}
theorem cd_sortedR (hc : X.calm = true) : CallRK X (.builtin "sorted") [Str.ofString "reverse"] (rKwT (rND T fSortedR)) := by
  rintro pins s σ H xs zs us ws Q I rx rz ⟨rfl, c, B, ds, k, ex, t, h, q⟩
  unfold fSortedR at h
  split at h
  · obtain ⟨a, vs, rfl, h1, r⟩ := one_list ex t
    obtain ⟨ns, e, h⟩ := h
    refine cr_sortedRev (b := true) pins s σ H _ _ us ws Q I rx rz ⟨a, ns, rfl, rfl, by rw [← r.intsOf e]; exact .inl (.inl h1), fun ns' p pm so hp => ?_⟩
    rw [ordB_rev pm so]
    exact q _ _ _ _ h (Res.newL ex hp (Dens.ints _))
  · cases t with
    | cons t r =>
      cases r
      obtain ⟨a, ys, rfl, h1, r1⟩ := t.dict ex
      obtain ⟨ns, e, h⟩ := h
      obtain rfl := Vals.ref1 rx
      obtain ⟨w1, rfl, e1⟩ := vals1 rz
      obtain rfl : w1 = Value.bool true := e1
      refine cr_sortedDRev (b := true) hc I (.inl h1) (by rw [r1.keysEq]; exact e) fun ns' p pm so hp => ?_
      rw [ordB_rev pm so]
      exact q _ _ _ _ h (Res.newL ex hp (Dens.ints _))
  · exact h.elim
theorem qe_callBR {x : Str} {p kp : Pos} {id : String} {f : FN} {j} {cp : Pos} (hc : CallRK X (.builtin id) [Str.ofString "reverse"] (rKwT (rND T f))) (hm : X.mg x = none) (hv : bootBuiltins x = some (.builtin id)) (ha : PA X (e :: es) (liftB T W rs)) (hg : Gl X x := by rfl) (hn : x ≠ "__name__" := by decide) (hdb : (x == ("__debug__" : Str)) = false := by decide)
    (he : backTo pos (starEach (e :: es) X.env) = (false, eval e X.env) :: backTo pos (starEach es X.env) := by rfl) (hpl : (backTo pos (starEach (e :: es) X.env)).any (·.1) = false := by rfl)
    (hall : (backToKw pos (keywordEach [⟨some "reverse", .Constant (.bool true) j cp, kp⟩] X.env)).all (·.1.isSome) = true := by rfl) (hnone : (backToKw pos (keywordEach [⟨some "reverse", .Constant (.bool true) j cp, kp⟩] X.env)).any (·.1.isNone) = false := by rfl)
    (hks : (backToKw pos (keywordEach [⟨some "reverse", .Constant (.bool true) j cp, kp⟩] X.env)).filterMap (·.1) = [Str.ofString "reverse"] := by rfl) :
    PE X (.Call (.Name x p) (e :: es) [⟨some "reverse", .Constant (.bool true) j cp, kp⟩] pos) (liftE T W (dCall f rs)) :=
  (pe_callBK hc hg hm hv ha (pk_cons pe_bl pk_nil) hn hdb he hpl hall hnone hks).imp fun σ H Q' h =>
    le_callB (r := fun vs H Q => rKwT (rND T f) vs [.bl true] H Q) (fun c B H vs ds k Q' ex t h q => ⟨rfl, pND c B H vs ds k Q' ex t h q⟩) σ H Q' h
end
/-! ### a dict as it is written, of constants -/
inductive Con : V → D → Prop
  | int (i : Int) : Con (.int i) (.int i)
  | str (x : Str) : Con (.str x) (.str x)
  | bl (b : Bool) : Con (.bl b) (.bl b)
theorem Con.den {T : Tx} {c : Dx T} {B : Hp} {v : V} {d : D} (h : Con v d) : Den c B v d := by
  cases h with
  | int i => exact .int i
  | str i => exact .str i
  | bl i => exact .bl i
structure ConPE (X : Cx) (e : Expr) (v : V) (d : D) : Prop where
  c : Con v d
  p : PE X e (tC v)
inductive ConK (X : Cx) (pos : Pos) : List (Option Expr) → List Expr → List (Key × V) → List (Key × D) → Prop
  | nil : ConK X pos [] [] [] []
  | cons {k v : Expr} {ks : List (Option Expr)} {vs : List Expr} {key : Key} {x : V} {d : D} {xs : List (Key × V)} {ds : List (Key × D)} : PE X k (tC (kV key)) → ConPE X v x d → ConK X pos ks vs xs ds → ConK X pos (some k :: ks) (v :: vs) ((key, x) :: xs) ((key, d) :: ds)
def mergeD (kvs more : List (Key × D)) : List (Key × D) := more.foldl (fun acc kv => putD acc kv.1 kv.2) kvs
theorem DenK.merge {T : Tx} {c : Dx T} {B : Hp} : ∀ {more : List (Key × V)} {mD : List (Key × D)} {kvs : List (Key × V)} {ds : List (Key × D)}, DenK c B more mD → DenK c B kvs ds → DenK c B (mergeK kvs more) (mergeD ds mD)
  | [], _, _, _, .nil, h => h
  | (k, v) :: more, _, _, _, .cons h r, g => by
    have z := DenK.merge r (g.put k h)
    exact z
section
variable {X : Cx} {T : Tx} {W : WX} {pos : Pos}
theorem ConK.pps {keys : List (Option Expr)} {values : List Expr} {xs : List (Key × V)} {ds : List (Key × D)} (h : ConK X pos keys values xs ds) : PPs X pos keys values (xs.map fun kv => (tC (kV kv.1), tC kv.2)) := by
  induction h with
  | nil => exact pps_nil
  | cons a b _ ih => exact pps_cons a b.p ih
theorem ConK.den {keys : List (Option Expr)} {values : List Expr} {xs : List (Key × V)} {ds : List (Key × D)} (h : ConK X pos keys values xs ds) {c : Dx T} {B : Hp} : DenK c B xs ds := by
  induction h with
  | nil => exact .nil
  | cons a b _ ih => exact .cons b.c.den ih
theorem ConK.len {keys : List (Option Expr)} {values : List Expr} {xs : List (Key × V)} {ds : List (Key × D)} (h : ConK X pos keys values xs ds) : keys.length = xs.length := by
  induction h with
  | nil => rfl
  | cons a b _ ih => simp [ih]
theorem tPairs_con {σ : L2.St} {H : Hp} {Q : List (V × V) → Hp → Prop} : ∀ (xs : List (Key × V)), Q (xs.map fun kv => (kV kv.1, kv.2)) H → tPairs (xs.map fun kv => (tC (kV kv.1), tC kv.2)) σ H Q
  | [], h => h
  | kv :: xs, h => by
    show tPairs (xs.map fun kv => (tC (kV kv.1), tC kv.2)) σ H _
    exact tPairs_con xs h
def dDic (ds : List (Key × D)) : RE := fun _ ρ Q => Q (.dic (mergeD [] ds)) .f ρ
theorem qe_dic {keys : List (Option Expr)} {values : List Expr} {xs : List (Key × V)} {ds : List (Key × D)} (h : ConK X pos keys values xs ds) (hall : keys.all (·.isSome) = true := by rfl) (hl : keys.length = values.length := by rfl) (h0 : keys ≠ [] := by intro z; cases z)
    (h15 : keys.length ≤ 15 := by decide) : PE X (.Dict keys values pos) (liftE T W (dDic ds)) :=
  (pe_disp h.pps hall hl h0 h15).imp fun σ H Q' ⟨c, B, ρ, x, Q, R, X, hq, q⟩ p hp => by
    refine tPairs_con xs ⟨upd_same, xs, rfl, by rw [← h.len]; exact h15, ?_⟩
    have e : upd (upd H p (.dK [])) p (.dK (mergeK [] xs)) = upd H p (.dK (mergeK [] xs)) := by
      funext b
      by_cases q : b = p
      · subst q; rw [upd_same, upd_same]
      · rw [upd_ne q, upd_ne q, upd_ne q]
    rw [e]
    exact res_to R q hq (Res.newD R.ex hp (h.den.merge .nil))
theorem ck_int {i : Int} {j} : ConPE X (.Constant (.int i) j pos) (.int i) (.int i) := ⟨.int i, pe_int⟩
theorem ck_str {i : Str} {j} : ConPE X (.Constant (.str i) j pos) (.str i) (.str i) := ⟨.str i, pe_str⟩
theorem ck_bl {i : Bool} {j} : ConPE X (.Constant (.bool i) j pos) (.bl i) (.bl i) := ⟨.bl i, pe_bl⟩
theorem kk_str {i : Str} {j} : PE X (.Constant (.str i) j pos) (tC (kV (.inr i))) := pe_str
theorem kk_int {i : Int} {j} : PE X (.Constant (.int i) j pos) (tC (kV (.inl i))) := pe_int
@[simp] theorem o_dic {ds : List (Key × D)} {x : XQ} {ρ : Env} {Q : EQ} : dDic ds x ρ Q = Q (.dic (mergeD [] ds)) .f ρ := rfl
end
end Dc
set_option maxHeartbeats 1000000
/-! Data calculus 24: a, b = e, f where a cell is among the names. -/
namespace Dc
open PySem L2 PyProof.Rows PySem.W
theorem Tgs.monoH {T : Tx} {c : Dx T} {σ : L2.St} {B H H' : Hp} {ρ : Env} {vs : List V} {l : List (D × Tag)} (h : Tgs c σ B H ρ vs l) (e : ∀ a o, H a = some o → H' a = some o) : Tgs c σ B H' ρ vs l := by
  induction h with
  | nil => exact .nil
  | p n _ ih => exact .p n ih
  | f m o n1 n2 _ ih => exact .f m (o.mono Ex.rfl' (e _)) n1 n2 ih
section
variable {T : Tx} {W : WX} {ta : RAt} {i j k : Nat}
theorem ls_parC2 : ∀ D σ H, liftS T W (sPar [i, j] ta) D σ H → tAsg (tTup (liftAt T W ta)) (gTup T.K 2 (gCons (gName i) (gCons (gName j) gNil))) D σ H := by
  rintro D σ H ⟨c, B, ρ, k, R, X, h, n, r, bk, ct⟩
  refine ⟨c, B, ρ, _, _, R, X, h, fun l ρ1 vs B1 H1 h1 e1 k1 R1 t1 => ?_⟩
  have hl := t1.len
  rw [h1.1] at hl
  match vs, hl with
  | [v, w], _ =>
    refine ⟨(by decide : (2 : Nat) ≤ sizeLine), fun p hp => ?_⟩
    have R2 := setAll [i, j] (R1.newH (o := .tup [v, w]) hp) (t1.monoH fun a o e => by rw [upd_ne (ne_of_none e hp)]; exact e)
    exact ⟨p, [v, w], rfl, .inl (.inl upd_same), rfl, v, [w], rfl, w, [], rfl, rfl, n _ _ B1 _ h1.2 e1 R2⟩
theorem ls_parC3 : ∀ D σ H, liftS T W (sPar [i, j, k] ta) D σ H → tAsg (tTup (liftAt T W ta)) (gTup T.K 3 (gCons (gName i) (gCons (gName j) (gCons (gName k) gNil)))) D σ H := by
  rintro D σ H ⟨c, B, ρ, kk, R, X, h, n, r, bk, ct⟩
  refine ⟨c, B, ρ, _, _, R, X, h, fun l ρ1 vs B1 H1 h1 e1 k1 R1 t1 => ?_⟩
  have hl := t1.len
  rw [h1.1] at hl
  match vs, hl with
  | [u, v, w], _ =>
    refine ⟨(by decide : (3 : Nat) ≤ sizeLine), fun p hp => ?_⟩
    have R2 := setAll [i, j, k] (R1.newH (o := .tup [u, v, w]) hp) (t1.monoH fun a o e => by rw [upd_ne (ne_of_none e hp)]; exact e)
    exact ⟨p, [u, v, w], rfl, .inl (.inl upd_same), rfl, u, [v, w], rfl, v, [w], rfl, w, [], rfl, rfl, n _ _ B1 _ h1.2 e1 R2⟩
variable {X : Cx} {a b d : Expr} {pos : Pos}
theorem qs_parC2 (i j : Nat) {x y : Str} {px py pt : Pos} {kt k2 pt2} (hc : X.calm = true) (hN : X.N.Nodup) (ha : PA X [a, b] (liftAt T W ta)) (hi : X.N[i]? = some x := by rfl) (hj : X.N[j]? = some y := by rfl)
    (hx : Loc X.env.scope x := by first | exact Or.inl rfl | exact Or.inr rfl) (hy : Loc X.env.scope y := by first | exact Or.inl rfl | exact Or.inr rfl)
    (hf : X.fn x = true ∨ X.env.scope.names.lookup x = some .local := by first | exact .inl rfl | exact .inr rfl | assumption) (hg : X.fn y = true ∨ X.env.scope.names.lookup y = some .local := by first | exact .inl rfl | exact .inr rfl | assumption) (hK : X.K = T.K := by rfl)
    (hw : swappedStores [.Tuple [.Name x px, .Name y py] kt pt] (.Tuple [a, b] k2 pt2) X.env = pure none := by rfl)
    (hs : swapsWithSole [.Tuple [.Name x px, .Name y py] kt pt] (.Tuple [a, b] k2 pt2) pos.line X.env = pure false := by rfl)
    (h1 : (assignEach [.Tuple [.Name x px, .Name y py] kt pt] X.env).map (·.2) = [assign (.Tuple [.Name x px, .Name y py] kt pt) X.env] := by rfl) :
    PS X (.Assign [.Tuple [.Name x px, .Name y py] kt pt] (.Tuple [a, b] k2 pt2) pos) (liftS T W (sPar [i, j] ta)) :=
  (ps_asg (pe_tup ha) (pg_tup hc (pgs_cons (pg_name hN hi hx hf) (pgs_cons (pg_name hN hj hy hg) pgs_nil))) hs hw h1).imp (by rw [hK]; exact ls_parC2)
end
end Dc
set_option maxHeartbeats 1000000
/-! Data calculus 25: plain tuples (known to have no dict of their own), dict(..) of one; names given the other way round. -/
namespace L2
open PySem PySem.Spec PyProof.Rows
section
variable {X : Cx}
/-- tuple(list), the new object known -/
theorem call_tupleZ {pins : List (Addr × Obj)} {s : Shared} {σ : St} {H : Hp} {p : Addr} {ys : List V} {Q : VK} (I : Inv X pins σ H s) (hq : SqL X.K H p ys)
    (q : ∀ (l : Addr) (o : Obj), H l = none → o.cls = .type "tuple" → o.dict = none → Q (.ref l) (upd H l (.frz o (.tup ys)))) : wpAny (model X.prog X.w) X.A (call (.type "tuple") [.ref p]) (EP X pins σ Q) X.xe s := by
  obtain ⟨its, r', pl, hz⟩ := I.list hq
  have hlen := r'.length
  refine call_tuple_list pl.isList (fun h' kp => ?_) (by simp only [List.size_toArray] <;> omega)
  have I1 : Inv X pins σ H { s with heap := h' } := I.kept (t' := s.toks) kp
  have I2 : Inv X pins σ (upd H h'.objs.size (.frz { cls := .type "tuple", data := .seq its.toArray } (.tup ys))) { s with heap := h'.push { cls := .type "tuple", data := .seq its.toArray } } :=
    I1.laid (t' := s.toks) (fun b o e => Heap.get?_push_of_some _ e) (Nat.le_refl _) (show ObjOk X.prog X.w _ _ _ (.frz _ (.tup ys)) from ⟨Heap.get?_push_size _ rfl, hz, its, r', IsTup.new _ _⟩)
  exact ⟨.ref h'.objs.size, _, I2, rfl, q _ _ (I1.hok.fresh (Nat.le_refl _)) rfl rfl⟩
theorem pairs_ofZ {pins : List (Addr × Obj)} {σ : St} {H : Hp} {s : Shared} (I : Inv X pins σ H s) : ∀ {ps : List Addr} {kvs : List (Key × V)}, Paired (fun p kv => SqT X.K H p [kV kv.1, kv.2]) ps kvs →
    ∃ (prs : List (Key × Value)) (uvs : List (Value × Value)), KV kvs prs ∧ prs.length = ps.length ∧ uvs.length = ps.length ∧ ∀ (j : Nat) (u v : Value), uvs[j]? = some (u, v) → ∃ (b : Addr) (k : Key), ps[j]? = some b ∧ prs[j]? = some (k, v) ∧ IsTup s.heap b #[u, v] ∧ keyIs k u = true
  | _, _, .nil => ⟨[], [], .nil, rfl, rfl, fun j u v e => by simp at e⟩
  | _, _, .cons (a := p) (b := kv) h t => by
    obtain ⟨prs, uvs, r, hl, hl2, hp⟩ := pairs_ofZ I t
    obtain ⟨its, rv, ht, _⟩ := I.tuple h
    obtain ⟨u, y, ei, ru, ry⟩ := vals2 rv
    subst ei
    refine ⟨(kv.1, y) :: prs, (u, y) :: uvs, .cons ⟨rfl, ry⟩ r, by rw [List.length_cons, List.length_cons, hl], by rw [List.length_cons, List.length_cons, hl2], fun j u' v' e => ?_⟩
    cases j with
    | zero =>
      have e' : (u, y) = (u', v') := Option.some.inj e
      cases e'
      exact ⟨p, kv.1, rfl, rfl, ht, kV_is (P := X.prog) (w := X.w) ru⟩
    | succ j =>
      obtain ⟨b, k, e1, e2, e3, e4⟩ := hp j u' v' (by simpa using e)
      exact ⟨b, k, by simpa using e1, by simpa using e2, e3, e4⟩
/-- dict(t) of a plain tuple of pairs -/
theorem call_dictZ (hcalm : X.calm = true) {pins : List (Addr × Obj)} {s : Shared} {σ : St} {H : Hp} {a : Addr} {o : Obj} {ps : List Addr} {kvs : List (Key × V)} {Q : VK} (I : Inv X pins σ H s) (ha : H a = some (.frz o (.tup (ps.map V.ref)))) (hd : o.dict = none)
    (hp : Paired (fun p kv => SqT X.K H p [kV kv.1, kv.2]) ps kvs) (q : ∀ p, H p = none → Q (.ref p) (upd H p (.dK (mergeK [] kvs)))) : wpAny (model X.prog X.w) X.A (call (.type "dict") [.ref a]) (EP X pins σ Q) X.xe s := by
  obtain ⟨hget, hz, its, rv, o', ho', hc', n, hdat⟩ := (show ObjOk X.prog X.w H s.heap a (.frz o (.tup (ps.map V.ref))) from I.hok a _ ha)
  rw [hget] at ho'
  cases ho'
  have ei := refs_at rv
  subst ei
  rw [List.length_map] at hz
  obtain ⟨prs, uvs, rel, hl, hl2, hpr⟩ := pairs_ofZ I hp
  have P := PairArg.tuple (prog := X.prog) (w := X.w) a (ps.map Value.ref).toArray (fun j => ps.getD j 0) uvs
  have ok : PlainSeq "tuple" s.heap a (ps.map Value.ref).toArray ∧ PairItems s.heap (ps.map Value.ref).toArray (fun j => ps.getD j 0) uvs := by
    refine ⟨⟨o, n, hget, hc', hd, hdat⟩, by simp [hl2], fun j u v e => ?_⟩
    obtain ⟨b, k, e1, e2, e3, e4⟩ := hpr j u v e
    have eb : ps.getD j 0 = b := by rw [List.getD_eq_getElem?_getD, e1]; rfl
    exact ⟨by simp [e1], .inl (by show s.heap.IsTuple (ps.getD j 0) #[u, v]; rw [eb]; exact e3)⟩
  refine PySem.call_dict_pairs (knd := mixKind X.prog X.w) (kvs := prs) P (I.ok.hd hcalm) ok ⟨by rw [hl, hl2], fun i u v e => ?_⟩ (by rw [hl2]; exact hz) fun h' tk hd' k => ?_
  · obtain ⟨b, k, e1, e2, e3, e4⟩ := hpr i u v e
    exact ⟨k, e2, e4⟩
  · have hm : (s.heap.objs.size == sysModules) = false := beq_eq_false_iff_ne.mpr (Nat.ne_of_gt I.big)
    have hlen : (mergeK [] kvs).length ≤ sizeLine := by
      refine Nat.le_trans (length_mergeK kvs []) ?_
      rw [List.length_nil, Nat.zero_add, rel.length, hl]
      exact hz
    exact ⟨.ref s.heap.objs.size, upd H s.heap.objs.size (.dK (mergeK [] kvs)), I.laid (t' := tk) (fun b o e => k b o (by simp) e) (Nat.le_refl _) (show ObjOk X.prog X.w _ _ _ (.dK (mergeK [] kvs)) from ⟨hlen, hm, merged [] prs, KV.merge rel .nil, hd'⟩), rfl, q _ (I.hok.fresh (Nat.le_refl _))⟩
end
end L2
namespace Dc
open PySem L2 PyProof.Rows PySem.W
def asT : D → D
  | .tpz ds => .tup ds
  | d => d
def dAsT (re : RE) : RE := fun x ρ Q => re x ρ fun d g ρ1 => Q (asT d) g ρ1
theorem Den.asT {T : Tx} {c : Dx T} {B : Hp} {v : V} {d : D} (h : Den c B v d) : Den c B v (asT d) := by
  cases h with
  | tpz h h1 h2 r => exact .tup (.inl (.inr ⟨_, h⟩)) r
  | non => exact .non
  | bl b => exact .bl b
  | int b => exact .int b
  | str b => exact .str b
  | tup h r => exact .tup h r
  | lst h n r => exact .lst h n r
  | dic h n r => exact .dic h n r
  | obj h r => exact .obj h r
  | ptr h => exact .ptr h
  | adr => exact .adr
  | scr h => exact .scr h
theorem OwnAt.asT {T : Tx} {c : Dx T} {B H : Hp} {a : Addr} {d : D} (h : OwnAt c B H a d) : asT d = d := by
  cases h <;> rfl
theorem Tg.asT {T : Tx} {c : Dx T} {σ : L2.St} {B H : Hp} {ρ : Env} {v : V} {d : D} {g : Tag} (R : Rel c σ B H ρ) (h : Tg c σ B H ρ v d g) : Tg c σ B H ρ v (Dc.asT d) g := by
  cases h with
  | p h => exact .p h.asT
  | f m o n => rw [o.asT]; exact .f m o n
  | b h1 h2 =>
    have := (R.ownB h1 h2).2.asT
    rw [this]; exact .b h1 h2
theorem le_asT {T : Tx} {W : WX} {re : RE} : ∀ σ H Q', liftE T W (dAsT re) σ H Q' → liftE T W re σ H Q' := by
  rintro σ H Q' ⟨c, B, ρ, x, Q, R, X, h, q⟩
  exact ⟨c, B, ρ, x, fun d g ρ1 => Q (asT d) g ρ1, R, X, h, fun d g ρ' v B' H' hq e k R' t => q (asT d) g ρ' v B' H' hq e k R' (t.asT R')⟩
def fTupleZ : FN
  | [.lst xs], k => k (.tpz xs) .p
  | _, _ => False
def pairD (kv : Key × D) : D := .tup [keyD kv.1, kv.2]
def fDictZ : FN
  | [.tpz ds], k => ∃ kvs : List (Key × D), ds = kvs.map pairD ∧ k (.dic (mergeD [] kvs)) .f
  | _, _ => False
theorem Den.keyV {T : Tx} {c : Dx T} {B : Hp} {v : V} {k : Key} (h : Den c B v (keyD k)) : v = kV k := by
  cases k with
  | inl i => cases h; rfl
  | inr x => cases h; rfl
theorem Dens.pairs {T : Tx} {c : Dx T} {B H : Hp} (ex : Ex B H) {kvs : List (Key × D)} : ∀ {xs : List V}, Dens c B xs (kvs.map pairD) → ∃ (ps : List Addr) (ys : List (Key × V)), xs = ps.map V.ref ∧ DenK c B ys kvs ∧ Paired (fun p kv => SqT T.K H p [kV kv.1, kv.2]) ps ys := by
  induction kvs with
  | nil =>
    intro xs h
    cases h
    exact ⟨[], [], rfl, .nil, .nil⟩
  | cons kv kvs ih =>
    intro xs h
    rw [List.map_cons] at h
    cases h with
    | cons h r =>
      obtain ⟨ps, ys, rfl, dk, pr⟩ := ih r
      obtain ⟨a, vs, rfl, hs, r2⟩ := (Tm.den (H := H) h).tuple ex
      cases r2 with
      | cons n1 r3 =>
        cases r3 with
        | cons n2 r4 =>
          cases r4
          have e1 := n1.keyV
          subst e1
          exact ⟨a :: ps, (kv.1, _) :: ys, rfl, .cons n2 dk, .cons hs pr⟩
section
variable {X : Cx} {T : Tx} {W : WX} {e : Expr} {re : RE}
theorem qe_asT (he : PE X e (liftE T W re)) : PE X e (liftE T W (dAsT re)) := he.imp le_asT
theorem cd_tupleZ (hK : X.K = T.K := by rfl) : CallR X (.type "tuple") (rND T fTupleZ) := by
  rintro pins s σ H xs us Q I rx ⟨c, B, ds, k, ex, t, h, q⟩
  unfold fTupleZ at h
  split at h
  · obtain ⟨a, vs, rfl, h1, r⟩ := one_list ex t
    obtain rfl := Vals.ref1 rx
    refine call_tupleZ I (.inl (.inl h1)) fun l o hl hc hd => q _ _ _ _ h ?_
    exact ⟨upd B l (.frz o (.tup vs)), Ex.new (ex.free hl), Ex.new hl, fun _ _ R => ⟨R.newB hl, .p (.tpz upd_same hc hd (r.mono (Ex.new (ex.free hl))))⟩⟩
  · exact h.elim
theorem cd_dictZ (hc : X.calm = true) (hK : X.K = T.K := by rfl) : CallR X (.type "dict") (rND T fDictZ) := by
  rintro pins s σ H xs us Q I rx ⟨c, B, ds, k, ex, t, h, q⟩
  unfold fDictZ at h
  split at h
  · obtain ⟨kvs, rfl, h⟩ := h
    cases t with
    | cons t r =>
      cases r
      cases t with
      | own _ o => cases o
      | den d =>
        cases d with
        | @tpz a o vs _ hb hcl hd r =>
          obtain rfl := Vals.ref1 rx
          obtain ⟨ps, ys, rfl, dk, pr⟩ := Dens.pairs ex r
          exact call_dictZ hc I (ex _ _ hb) hd (by rw [hK]; exact pr) fun p hp => q _ _ _ _ h (Res.newD ex hp (dk.merge .nil))
  · exact h.elim
@[simp] theorem o_asT {x : XQ} {ρ : Env} {Q : EQ} : dAsT re x ρ Q = re x ρ fun d g ρ1 => Q (asT d) g ρ1 := rfl
@[simp] theorem v_asT_z {ds : List D} : asT (.tpz ds) = .tup ds := rfl
@[simp] theorem v_asT_t {ds : List D} : asT (.tup ds) = .tup ds := rfl
@[simp] theorem v_asT_i {i : Int} : asT (.int i) = .int i := rfl
@[simp] theorem v_asT_l {ds : List D} : asT (.lst ds) = .lst ds := rfl
@[simp] theorem v_tuplz {xs : List D} {k : D → Tag → Prop} : fTupleZ [.lst xs] k = k (.tpz xs) .p := rfl
end
/-! ### o.m(.., names the other way round) -/
def KBr (K : Frag) (fd : FuncData) (ps : List Str) (ks : List Str) : Prop := ∀ (s : Shared) (u : Value) (ws : List Value), K.In s.heap → ws.length = ks.length → BindsTo s fd ⟨[u], ks.zip ws⟩ (ps.zip (u :: ws.reverse))
theorem kbr_of {K : Frag} {x qual : Str} {st : Stmt} {f : Addr} {fd : FuncData} {ps : List Str} {ks : List Str} (F : Fun K x qual st f fd)
    (h : ∀ (kV doc pm : Value) (an : Option Addr) (cdv ct : Value) (u : Value) (ws : List Value), ws.length = ks.length → bindArgs (fnOf x qual (defArgs st) (defBody st) (defScope st) .none kV doc pm an cdv ct) ⟨[u], ks.zip ws⟩ = pure (ps.zip (u :: ws.reverse))) : KBr K fd ps ks := by
  obtain ⟨oc, od, kV, doc, pm, an, cdv, ct, osl, rfl, lk, hcd⟩ := F.ex
  exact fun s u ws _ h2 => BindsTo.of_looks fun M => by rw [h kV doc pm an cdv ct u ws h2]; exact .now
theorem Vals.rev {xs : List V} {us : List Value} (r : Vals xs us) : Vals xs.reverse us.reverse := by
  induction r with
  | nil => exact .nil
  | cons h _ ih =>
    rw [List.reverse_cons, List.reverse_cons]
    exact ih.append (.cons h .nil)
def tMethR (C : Addr) (sp : Sp) (W : WX) (ta : TE) (t : TA) : TE := fun σ H Q => ta σ H fun x H1 => ∃ a dx vs, x = .ref a ∧ SlX.Slt H1 a C dx vs ∧ t σ H1 fun ws H2 => sp (x :: ws.reverse) H2 Q (WE W σ)
def dMethR (cn n : Nat) (sp : Sps) (to : RE) (ta : RA) : RE := fun x ρ Q => to x ρ fun d _ ρ1 => asObj cn d fun os => ta x ρ1 fun es ρ2 => es.length + 1 = n ∧ sp (.obj cn os :: es.reverse) (fun d o => Q d (tagO o) ρ2) (fun e => x e ρ2)
section
variable {X : Cx} {T : Tx} {k n cn : Nat} {f C : Addr} {fd : FuncData} {ps ks : List Str} {sp : Sps} {W : WX} {m : Str} {pos apos : Pos} {o : Expr} {kws : List Keyword} {to : RE} {ta : RA} {rs : RA} {t : TA} {tE : TE} {pl : Sem Bool}
theorem pe_mGr {sp : Sp} (c : SlX.SCls X.K C) (hm : Meth X.K C m f) (F : FnG X.prog X.w X.K X.mg X.base k f fd ps sp) (hr : Room k X.A) (hgu : X.A.guards = some []) (hb : KBr X.K fd ps ks) (tk : Takes X W)
    (he : PE X o tE) (ha : PCs X [] kws pos 0 ks t)
    (ht : eval (.Call (.Attribute o m apos) [] kws pos) X.env = (do
      let ov ← eval o X.env
      standAt apos.atName
      let (f, first) ← holding [ov] (getMethod ov m pl)
      callWith pos f first (backTo pos (starEach [] X.env)) (backToKw pos (keywordEach kws X.env))) := by rfl) : PE X (.Call (.Attribute o m apos) [] kws pos) (tMethR C sp W tE t) := by
  refine ⟨fun pins s σ H Q I h => methodCall_KW (pl := pl) (thn (he.run pins s σ H _ I h) fun u s1 ⟨x, H1, I1, rx, a, dx, vs, ex, hsl, q⟩ => ?_) ht⟩
  subst ex
  obtain rfl : u = Value.ref a := rx
  refine SlX.getmethsl_ok I1 hsl c hm ?_
  refine ha.run X.K.In _ [.ref a] pins s1 σ H1 _ _ (keeps_K hm.kp) I1 (fun _ _ I => I.kIn) q fun us ws vs H2 s2 I2 r l1 l2 q => ?_
  obtain rfl : us = [] := List.eq_nil_of_length_eq_zero l1
  exact wpAny_call (run_fnG (us := .ref a :: ws.reverse) (vs := .ref a :: vs.reverse) (args := ⟨[.ref a], ks.zip ws⟩) F hr hgu tk I2 (hb s2 (.ref a) ws I2.kIn l2) (.cons rfl (Vals.rev r)) q)
theorem Dens.rev {T : Tx} {c : Dx T} {B : Hp} {xs : List V} {ds : List D} (r : Dens c B xs ds) : Dens c B xs.reverse ds.reverse := r.reverse
theorem le_methR : ∀ σ H Q', liftE T W (dMethR cn n sp to ta) σ H Q' → tMethR (T.cl cn) (spD T n sp) W (liftE T W to) (liftA T W ta) σ H Q' := by
  rintro σ H Q' ⟨c, B, ρ, x, Q, R, X, h, q⟩
  refine ⟨c, B, ρ, x, _, R, X, h, fun d g ρ1 v B1 H1 h1 e1 k1 R1 t1 => ?_⟩
  cases d <;> first | exact h1.elim | skip
  case obj k os =>
    obtain ⟨rfl, h1⟩ := h1
    have dn := (t1.tm R1).denO
    obtain ⟨a, dx, xs, rfl, hs, r⟩ := (t1.tm R1).obj_ R1.ex
    refine ⟨a, dx, _, rfl, hs, c, B1, ρ1, x, _, R1, X.up e1, h1, fun es ρ2 ws B2 H2 h2 e2 k2 R2 t2 => ?_⟩
    exact spD_at R2 (X.up (e1.trans e2)) (.cons (dn.mono e2) t2.reverse) (by rw [List.length_cons, List.length_reverse]; exact h2.1) h2.2 fun d g ρ' v B' H' a1 a2 a3 a4 a5 => q _ _ _ _ B' H' a1 ((e1.trans e2).trans a2) ((k1.trans k2).trans a3) a4 a5
theorem qe_mR (c : SlX.SCls X.K (T.cl cn)) (hm : Meth X.K (T.cl cn) m f) (F : FnG X.prog X.w X.K X.mg X.base k f fd ps (spD T n sp)) (hr : Room k X.A) (hgu : X.A.guards = some []) (hb : KBr X.K fd ps ks) (tk : Takes X W) (he : PE X o (liftE T W to)) (ha : PCs X [] kws pos 0 ks (liftA T W rs))
    (ht : eval (.Call (.Attribute o m apos) [] kws pos) X.env = (do
      let ov ← eval o X.env
      standAt apos.atName
      let (f, first) ← holding [ov] (getMethod ov m pl)
      callWith pos f first (backTo pos (starEach [] X.env)) (backToKw pos (keywordEach kws X.env))) := by rfl) : PE X (.Call (.Attribute o m apos) [] kws pos) (liftE T W (dMethR cn n sp to rs)) := (pe_mGr c hm F hr hgu hb tk he ha ht).imp le_methR
@[simp] theorem o_methR {x : XQ} {ρ : Env} {Q : EQ} : dMethR cn n sp to rs x ρ Q = to x ρ fun d _ ρ1 => asObj cn d fun os => rs x ρ1 fun es ρ2 => es.length + 1 = n ∧ sp (.obj cn os :: es.reverse) (fun d o => Q d (tagO o) ρ2) (fun e => x e ρ2) := rfl
end
end Dc
set_option maxHeartbeats 1000000
/-! Data calculus 26: a built-in value == an instance; an instance in a list. -/
namespace PySem
open PySem.SeqAt AutoSeq1 MeetsSeq MeetsSeq2 MeetsSeq3 SeqRoads2 MeetsSeq
namespace EqInst
section
variable {A : Around} {s : Shared} {x C dx : Addr} {sl : Array (Option Value)}
abbrev InO (h : Heap) (x C dx : Addr) (sl : Array (Option Value)) : Prop := h.get? x = some { cls := .ref C, dict := some dx, data := .plain, slots := sl }
theorem int_eq_declines_inst (b : Int) (u : Tok) (x C dx : Addr) (sl : Array (Option Value)) :
    Meets (Builtin.«int.__eq__» ⟨[.int b u, .ref x], []⟩) (fun _ R s => InO s.heap x C dx sl ∧ R (.ok (.ret .notImplemented)) s) :=
  .of_wp fun prog w A R s h => by obtain ⟨hp, g, d, tk, os⟩ := s; obtain ⟨hl, h⟩ := h; wp_walk using wpAny_loadPart' hl, wpAny_load hl; exact ⟨_, rfl, h⟩
theorem bool_eq_declines_inst (b : Bool) (x C dx : Addr) (sl : Array (Option Value)) :
    Meets (Builtin.«int.__eq__» ⟨[.bool b, .ref x], []⟩) (fun _ R s => InO s.heap x C dx sl ∧ R (.ok (.ret .notImplemented)) s) :=
  .of_wp fun prog w A R s h => by obtain ⟨hp, g, d, tk, os⟩ := s; obtain ⟨hl, h⟩ := h; wp_walk using wpAny_loadPart' hl, wpAny_load hl; exact ⟨_, rfl, h⟩
theorem str_eq_declines_inst (b : Str) (u : Tok) (x C dx : Addr) (sl : Array (Option Value)) :
    Meets (Builtin.«str.__eq__» ⟨[.str b u, .ref x], []⟩) (fun _ R s => InO s.heap x C dx sl ∧ R (.ok (.ret .notImplemented)) s) :=
  .of_wp fun prog w A R s h => by obtain ⟨hp, g, d, tk, os⟩ := s; obtain ⟨hl, h⟩ := h; wp_walk using wpAny_loadPart' hl, wpAny_load hl; exact ⟨_, rfl, h⟩
/-- the class C is below no built-in type T -/
def NotI (prog : Program) (w : World) (C : Addr) (T : String) (s : Shared) : Prop := ∀ (A : Around) (E : Value → Shared → Prop) (Q : Bool → Shared → Prop), Q false s → wpAny (model prog w) A (isSubtype (.ref C) (.type T)) Q E s
theorem list_eq_declines_inst {prog : Program} {w : World} (l : Addr) (items : Array Value) (n : Nat) (dd : Option Addr) (sl : Array (Option Value)) (x C dx : Addr) (sx : Array (Option Value)) :
    MeetsIn prog w (Builtin.«list.__eq__» ⟨[.ref l, .ref x], []⟩) (fun _ R s => s.heap.get? l = some { cls := .type "list", dict := dd, data := .seq items n, slots := sl } ∧ InO s.heap x C dx sx ∧ NotI prog w C "list" s ∧ R (.ok (.ret .notImplemented)) s) :=
  fun A R s h => by
    obtain ⟨hl, hx, hn, h⟩ := h
    unfold Builtin.«list.__eq__»
    wp_walk using wpAny_loadPart' hl, wpAny_loadPart' hx
    refine hn _ _ _ ?_
    wp_walk
    exact h
theorem tuple_eq_declines_inst {prog : Program} {w : World} (l : Addr) (items : Array Value) (n : Nat) (dd : Option Addr) (sl : Array (Option Value)) (x C dx : Addr) (sx : Array (Option Value)) :
    MeetsIn prog w (Builtin.«tuple.__eq__» ⟨[.ref l, .ref x], []⟩) (fun _ R s => s.heap.get? l = some { cls := .type "tuple", dict := dd, data := .seq items n, slots := sl } ∧ InO s.heap x C dx sx ∧ NotI prog w C "tuple" s ∧ R (.ok (.ret .notImplemented)) s) :=
  fun A R s h => by
    obtain ⟨hl, hx, hn, h⟩ := h
    unfold Builtin.«tuple.__eq__»
    wp_walk using wpAny_loadPart' hl, wpAny_loadPart' hx
    refine hn _ _ _ ?_
    wp_walk
    exact h
theorem dict_eq_declines_inst {prog : Program} {w : World} (l : Addr) (es : Array DictEntry) (ep : Nat) (dd : Option Addr) (sl : Array (Option Value)) (x C dx : Addr) (sx : Array (Option Value)) (lo : (l == sysModules) = false) :
    MeetsIn prog w (Builtin.«dict.__eq__» ⟨[.ref l, .ref x], []⟩) (fun _ R s => s.heap.get? l = some { cls := .type "dict", dict := dd, data := .dict es ep, slots := sl } ∧ InO s.heap x C dx sx ∧ NotI prog w C "dict" s ∧ R (.ok (.ret .notImplemented)) s) :=
  fun A R s h => by
    obtain ⟨hl, hx, hn, h⟩ := h
    unfold Builtin.«dict.__eq__»
    wp_walk using wpAny_loadPart' hl, wpAny_loadPart' hx
    refine hn _ _ _ ?_
    wp_walk
    exact h
end
end EqInst
end PySem
namespace Dc
open PySem L2 PyProof.Rows PySem.W PySem.EqInst
section
variable {prog : Program} {w : World} {A : Around} {E : Value → Shared → Prop} {s : Shared} {K : Frag} {x C L f : Addr} {h₀ : Heap} {m : Str → Option Value} {ox : Obj} {od : Option Obj} {a : Value} {T id : String}
/-- a == x, a of a built-in type whose own == declines, x an instance with an own == -/
theorem cmpR_K {Q : Value → Shared → Prop} (hu : A.units < cLine) (F0 : Fr h₀ L s.heap m) (X₀ : K.In h₀) (I : InstAt s.heap x ox C od) (ha : s.TypeIs a T) (slot : Slot T (cmpInfo .Eq).2.1 id) (hm : mroIn K C (.type T) = some false)
    (hc : ∀ Q' : Value → Shared → Prop, Q' .notImplemented s → wpAny (model prog w) A (call (.builtin id) [a, .ref x]) Q' E s)
    (hs : findIn K (.ref C) "__eq__" = some (some (.ref f))) (hf : isFn K (.ref f) = true)
    (h : wpAny (model prog w) A (call (.ref f) [.ref x, a]) (PySem.W.CmpBack Q) E s) : wpAny (model prog w) A (richCompare .Eq a (.ref x)) Q E s := by
  have X := X₀.keeps F0.keep
  have two : wpAny (model prog w) A (tryCompare (.ref x) (cmpInfo .Eq).2.2 a) (fun r s' => ∃ v, r = some v ∧ Q v s') E s := by
    unfold tryCompare
    refine wpAny_bind (ifBound_K X I hs hf (wpAny_mono h (fun v s' hv => ?_) fun _ _ e => e))
    cases v <;> first | exact hv.elim | exact wpAny_pure ⟨_, rfl, hv⟩
  have one : ∀ {R : Option Value → Shared → Prop}, R none s → wpAny (model prog w) A (tryCompare a (cmpInfo .Eq).2.1 (.ref x)) R E s := fun {R} hr =>
    wpAny_tryCompare_declines ha slot (hc _ ⟨rfl, hr⟩)
  unfold richCompare
  simp only [ha.oneThing_none]
  refine wpAny_holding (wpAny_bind (wpAny_cRoomFor hu ?_))
  refine wpAny_bind (wpAny_typeOf ha (wpAny_bind (I.type.here ?_)))
  rw [if_pos (by rfl)]
  refine wpAny_bind ((looks_mroIn X hm).here ?_)
  simp only [Bool.false_eq_true, if_false, Bool.not_false, if_true]
  refine wpAny_bind (one ?_)
  refine wpAny_bind (wpAny_mono two (fun r s' z => ?_) fun _ _ e => e)
  obtain ⟨v, rfl, hq⟩ := z
  exact wpAny_pure hq
end
/-- what of classes and built-in types is asked -/
structure NotB (K : Frag) (C : Addr) : Prop where
  non : mroIn K C (.type "NoneType") = some false
  bl : mroIn K C (.type "bool") = some false
  int : mroIn K C (.type "int") = some false
  str : mroIn K C (.type "str") = some false
  lst : mroIn K C (.type "list") = some false
  tup : mroIn K C (.type "tuple") = some false
  dic : mroIn K C (.type "dict") = some false
/-- a built-in value that is told of -/
def isB : D → Prop
  | .non => True
  | .bl _ => True
  | .int _ => True
  | .str _ => True
  | .lst _ => True
  | .tup _ => True
  | .dic _ => True
  | _ => False
section
variable {X : Cx} {T : Tx} {k cn : Nat} {f : Addr} {fd : FuncData} {ps : List Str} {sp : Sps}
theorem cmpR_D {c : Dx T} {B H : Hp} {pins : List (Addr × Obj)} {σ : L2.St} {s : Shared} {v u : V} {a b : Value} {d : D} {os : List D} {Q : Value → Shared → Prop} (hK : X.K = T.K) (hu : X.A.units < cLine) (nb : NotB X.K (T.cl cn)) (I : Inv X pins σ H s) (ex : Ex B H) (n1 : Den c B v d) (hb : isB d) (n2 : Den c B u (.obj cn os)) (rv : L2.RelV v a) (ru : L2.RelV u b)
    (hs : findIn X.K (.ref (T.cl cn)) "__eq__" = some (some (.ref f))) (hf : isFn X.K (.ref f) = true) (h : wpAny (model X.prog X.w) X.A (call (.ref f) [b, a]) (PySem.W.CmpBack Q) X.xe s) : wpAny (model X.prog X.w) X.A (richCompare .Eq a b) Q X.xe s := by
  cases n2 with
  | @obj x dx xs _ _ sl r2 =>
    obtain rfl : b = Value.ref x := ru
    obtain ⟨sx, od, _, J, _⟩ := SlX.slt_inst I (ex.slt sl)
    obtain ⟨m, hF⟩ := I.fr
    have hx : InO s.heap x (T.cl cn) dx sx := J.1
    have X0 := I.ok.mod.kin
    have XI := I.kIn
    have hn : ∀ {t : String}, mroIn X.K (T.cl cn) (.type t) = some false → NotI X.prog X.w (T.cl cn) t s := fun e A E Q hq => (looks_mroIn XI e).here hq
    cases n1 with
    | non =>
      obtain rfl : a = Value.none := rv
      exact cmpR_K hu hF X0 J (T := "NoneType") rfl F.slot_NoneType_eq nb.non (fun _ hq => call_gives F.slot_NoneType_eq rfl F.entry_NoneType_eq (F.args_NoneType_eq_2 _ _) (SeqAt.NoneType___eq___none_ref_0 x) hq) hs hf h
    | bl i =>
      obtain rfl : a = Value.bool i := rv
      exact cmpR_K hu hF X0 J (T := "bool") rfl F.slot_bool_eq nb.bl (fun _ hq => call_meets F.slot_bool_eq rfl F.entry_int_eq (F.args_int_eq_2 _ _) (bool_eq_declines_inst i x (T.cl cn) dx sx) ⟨hx, hq⟩) hs hf h
    | int i =>
      obtain ⟨t, rfl⟩ := rv
      exact cmpR_K hu hF X0 J (T := "int") (typeIs_int s i t) F.slot_int_eq nb.int (fun _ hq => call_meets F.slot_int_eq (typeIs_int s i t) F.entry_int_eq (F.args_int_eq_2 _ _) (int_eq_declines_inst i t x (T.cl cn) dx sx) ⟨hx, hq⟩) hs hf h
    | str i =>
      obtain ⟨t, rfl⟩ := rv
      exact cmpR_K hu hF X0 J (T := "str") (typeIs_str s i t) F.slot_str_eq nb.str (fun _ hq => call_meets F.slot_str_eq (typeIs_str s i t) F.entry_str_eq (F.args_str_eq_2 _ _) (str_eq_declines_inst i t x (T.cl cn) dx sx) ⟨hx, hq⟩) hs hf h
    | @lst l ys _ hl _ r =>
      obtain rfl : a = Value.ref l := rv
      obtain ⟨hz, its, n, rr, hob⟩ := I.hok l _ (ex _ _ hl)
      exact cmpR_K hu hF X0 J (T := "list") ⟨_, hob, rfl⟩ F.slot_list_eq nb.lst (fun _ hq => call_meetsIn F.slot_list_eq ⟨_, hob, rfl⟩ F.entry_list_eq (F.args_list_eq_2 _ _) (list_eq_declines_inst l its.toArray n none #[] x (T.cl cn) dx sx) ⟨hob, hx, hn nb.lst, hq⟩) hs hf h
    | @tup l ys _ hl r =>
      obtain rfl : a = Value.ref l := rv
      obtain ⟨its, rr, ⟨o, ho, hc, n, hd⟩, _⟩ := I.tuple (hK ▸ ex.sqT hl : SqT X.K H l ys)
      obtain ⟨cls, dd, data, sl2⟩ := o
      simp only at hc hd
      subst hc hd
      exact cmpR_K hu hF X0 J (T := "tuple") ⟨_, ho, rfl⟩ F.slot_tuple_eq nb.tup (fun _ hq => call_meetsIn F.slot_tuple_eq ⟨_, ho, rfl⟩ F.entry_tuple_eq (F.args_tuple_eq_2 _ _) (tuple_eq_declines_inst l its.toArray n dd sl2 x (T.cl cn) dx sx) ⟨ho, hx, hn nb.tup, hq⟩) hs hf h
    | @dic l ys _ hl _ r =>
      obtain rfl : a = Value.ref l := rv
      obtain ⟨hz, lo, vs, rel, dd⟩ := dk_of I.hok (ex _ _ hl)
      obtain ⟨⟨cls, od2, data, sl2⟩, es, ep, ho, hxd, hdat, _⟩ := id dd
      obtain ⟨hc, _⟩ := id hxd
      simp only at hc hdat
      subst hc hdat
      exact cmpR_K hu hF X0 J (T := "dict") ⟨_, ho, rfl⟩ F.slot_dict_eq nb.dic (fun _ hq => call_meetsIn F.slot_dict_eq ⟨_, ho, rfl⟩ F.entry_dict_eq (F.args_dict_eq_2 _ _) (dict_eq_declines_inst l es ep od2 sl2 x (T.cl cn) dx sx lo) ⟨ho, hx, hn nb.dic, hq⟩) hs hf h
    | obj h r => exact hb.elim
    | ptr h => exact hb.elim
    | adr => exact hb.elim
    | scr h => exact hb.elim
    | tpz h h1 h2 r => exact hb.elim
end
end Dc
set_option maxHeartbeats 1000000
/-! Data calculus 27: the rules of DC26 by data; an instance in a list. -/
namespace Dc
open PySem L2 PyProof.Rows PySem.W PySem.EqInst
def spRv (cn : Nat) (s1 : Sps) : Sps := fun ds Qd xd => match ds with
  | [.obj k os, d1] => k = cn ∧ isB d1 ∧ s1 [.obj k os, d1] Qd xd
  | _ => False
/-- a comparison one side of which may be an instance -/
def dOpR (f : F2) (so sr : Sps) (ta tb : RE) : RE := fun x ρ Q => ta x ρ fun d1 g1 ρ1 => tb x ρ1 fun d2 g2 ρ2 => match d1 with
  | .obj k os => so [.obj k os, d2] (fun d o => Q d (tagO o) (leak d2 g2 ρ2)) (fun _ => False)
  | d1 => match d2 with
    | .obj k os => g1 = .p ∧ sr [.obj k os, d1] (fun d o => Q d (tagO o) (leak (.obj k os) g2 ρ2)) (fun _ => False)
    | d2 => f d1 d2 fun d g => Q d g ρ2
def rQR (T : Tx) (f : F2) (so sr : Sps) : R2 := fun x y H Q => rQD T f so x y H Q ∨ spD T 2 sr [y, x] H Q fun _ _ _ => False
section
variable {T : Tx} {W : WX} {f : F2} {so sr : Sps} {ta tb : RE}
theorem le_opR : ∀ σ H Q', liftE T W (dOpR f so sr ta tb) σ H Q' → tOp (rQR T f so sr) (liftE T W ta) (liftE T W tb) σ H Q' := by
  rintro σ H Q' ⟨c, B, ρ, x, Q, R, X, h, q⟩
  refine ⟨c, B, ρ, x, _, R, X, h, fun d1 g1 ρ1 v1 B1 H1 h1 e1 k1 R1 t1 => ⟨c, B1, ρ1, x, _, R1, X.up e1, h1, fun d2 g2 ρ2 v2 B2 H2 h2 e2 k2 R2 t2 => ?_⟩⟩
  have pl : (f d1 d2 fun d g => Q d g ρ2) → rQR T f so sr v1 v2 H2 Q' := fun h2 => .inl (.inl ⟨c, B2, d1, d2, _, R2.ex, (t1.tm R1).mono e2 k2, t2.tm R2, h2, fun d g v H' hq r => res_to R2 (fun d g ρ' v B' H' hQ e k R' t => q d g ρ' v B' H' hQ ((e1.trans e2).trans e) ((k1.trans k2).trans k) R' t) hq r⟩)
  have rv : ∀ k os, d2 = .obj k os → g1 = .p → sr [.obj k os, d1] (fun d o => Q d (tagO o) (leak (.obj k os) g2 ρ2)) (fun _ => False) → rQR T f so sr v1 v2 H2 Q' := fun k os e2' eg hs => by
    subst e2' eg
    obtain ⟨B3, e3, R3, n3⟩ := leak_ok R2 t2
    cases t1 with
    | p n1 =>
      have n1 := n1.mono (e2.trans e3)
      exact .inr (spD_at (W := fun _ _ _ _ => False) (x := noX) R3 XW.no (.cons n3 (.cons n1 .nil)) rfl hs fun d g ρ' v B' H' a1 a2 a3 a4 a5 => q _ _ _ _ B' H' a1 ((e1.trans (e2.trans e3)).trans a2) ((k1.trans k2).trans a3) a4 a5)
  cases d1
  case obj k os =>
    obtain ⟨B3, e3, R3, n3⟩ := leak_ok R2 t2
    have n1 := ((t1.tm R1).denO).mono (e2.trans e3)
    exact .inl (.inr (spD_at (W := fun _ _ _ _ => False) (x := noX) R3 XW.no (.cons n1 (.cons n3 .nil)) rfl h2 fun d g ρ' v B' H' a1 a2 a3 a4 a5 => q _ _ _ _ B' H' a1 ((e1.trans (e2.trans e3)).trans a2) ((k1.trans k2).trans a3) a4 a5))
  all_goals
    cases d2
    case obj k os => exact rv k os rfl h2.1 h2.2
    all_goals exact pl h2
end
section
variable {X : Cx} {T : Tx} {k cn : Nat} {f : Addr} {fd : FuncData} {ps : List Str} {sp s2 : Sps} {f0 : F2} {op : CmpOp}
theorem or_none (h : OpR X (compareOp op) (rQD T f0 s2)) : OpR X (compareOp op) (rQR T f0 s2 spNone) := by
  intro pins s σ H x y v u Q I rx ry hq
  rcases hq with hq | ⟨c, B, ds, Qd, xd, _, _, _, _, z, _⟩
  · exact h pins s σ H x y v u Q I rx ry hq
  · exact z.elim
theorem or_eq (F : FnG X.prog X.w X.K X.mg X.base k f fd ps (spD T 2 sp)) (hr : Room k X.A) (hg : X.A.guards = some []) (hb : KB X.K fd ps 2 []) (hs : findIn X.K (.ref (T.cl cn)) "__eq__" = some (some (.ref f))) (hf : isFn X.K (.ref f) = true) (nb : NotB X.K (T.cl cn))
    (h : OpR X (compareOp .Eq) (rQD T f0 s2)) (hK : X.K = T.K := by rfl) : OpR X (compareOp .Eq) (rQR T f0 s2 (spRv cn (eqS sp))) := by
  intro pins s σ H x y v u Q I rx ry hq
  rcases hq with hq | ⟨c, B, ds, Qd, xd, h0, ho, r, hl, hs', q, qx⟩
  · exact h pins s σ H x y v u Q I rx ry hq
  match ds, hl, r with
  | [d2, d1], _, .cons n2 (.cons n1 .nil) =>
    unfold spRv at hs'
    split at hs'
    · rename_i z os d1' e
      cases e
      obtain ⟨rfl, hB, hs'⟩ := hs'
      refine PySem.W.cmp_ofEq (cmpR_D hK hr.units0 nb I ho.ex n1 hB n2 rx ry hs hf (wpAny_mono (own_call2 (Q := fun v H' => ∃ b, v = .bl b ∧ Q (.bl b) H') F hr hg I.env0 hb I ry rx ?_) (fun r s' hv => ?_) fun _ _ e => e))
      · refine ⟨c, B, _, _, _, h0, ho, .cons n2 (.cons n1 .nil), rfl, hs', fun d o v B' H' hq eb kp ho' ro => ?_, fun e cls dd B' H' z => z.elim⟩
        cases d <;> first | exact hq.elim | skip
        case bl b =>
          refine ⟨b, ?_, q _ _ _ B' H' hq eb kp ho' (.p (.bl b))⟩
          cases ro with
          | p h => cases h; rfl
          | f _ h => cases h
      · obtain ⟨v, H', I', rv, b, rfl, q⟩ := hv
        obtain rfl : r = Value.bool b := rv
        exact ⟨.bl b, H', I', rfl, q⟩
    · exact hs'.elim
end
section
variable {X : Cx} {T : Tx} {W : WX} {f : F2} {so sr : Sps} {a b : Expr} {ra rb : RE} {pos : Pos} {op : CmpOp}
theorem lt_opR : ∀ σ H Q', liftT T W (dTest (dOpR f so sr ra rb)) σ H Q' → tTest (tOp (rQR T f so sr) (liftE T W ra) (liftE T W rb)) σ H Q' := by
  rintro σ H Q' ⟨c, B, ρ, x, Q, R, X, h, q⟩
  refine le_opR σ H _ ⟨c, B, ρ, x, _, R, X, h, fun d g ρ' v B' H' hd e k R' t => ?_⟩
  cases d <;> first | exact hd.elim | skip
  case bl b =>
    have ev := (t.tm R').bl_
    subst ev
    exact ⟨b, rfl, q _ _ B' H' hd e k R'⟩
theorem qe_cmpR (ho : OpR X (compareOp op) (rQR T f so sr)) (ha : PE X a (liftE T W ra)) (hb : PE X b (liftE T W rb)) (hm : behindInMarks op b = false := by first | exact nobehind _ (by decide) (by decide) | rfl) :
    PE X (.Compare a [op] [b] pos) (liftE T W (dOpR f so sr ra rb)) := (pe_cmpR ho ha hb hm).imp le_opR
theorem qt_cmpR (ho : OpR X (compareOp op) (rQR T f so sr)) (ha : PE X a (liftE T W ra)) (hb : PE X b (liftE T W rb)) (hm : behindInMarks op b = false := by first | exact nobehind _ (by decide) (by decide) | rfl) :
    PT X (.Compare a [op] [b] pos) (liftT T W (dTest (dOpR f so sr ra rb))) := (pt_cmpR ho ha hb hm).imp lt_opR
@[simp] theorem o_opR {x : XQ} {ρ : Env} {Q : EQ} : dOpR f so sr ra rb x ρ Q = ra x ρ fun d1 g1 ρ1 => rb x ρ1 fun d2 g2 ρ2 => match d1 with
  | .obj k os => so [.obj k os, d2] (fun d o => Q d (tagO o) (leak d2 g2 ρ2)) (fun _ => False)
  | d1 => match d2 with
    | .obj k os => g1 = .p ∧ sr [.obj k os, d1] (fun d o => Q d (tagO o) (leak (.obj k os) g2 ρ2)) (fun _ => False)
    | d2 => f d1 d2 fun d g => Q d g ρ2 := rfl
end
end Dc
set_option maxHeartbeats 1000000
/-! Data calculus 28: an instance in a list of instances. -/
namespace PySem.SeqAt
open AutoSeq1 (wpAny_loadPart')
open MeetsSeq MeetsSeq2 MeetsSeq3 SeqRoads2
theorem contains_loopJ {prog : Program} {w : World} {A : Around} {R : Result → Shared → Prop} {l : Addr} {items : Array Value} {dd : Option Addr} {sl : Array (Option Value)} {x : Value} (J : Nat → Shared → Prop)
    (hl : ∀ i s, J i s → ∃ n : Nat, s.heap.get? l = some { cls := .type "list", dict := dd, data := .seq items n, slots := sl }) (hend : ∀ s, J items.size s → R (.ok (.ret (.bool false))) s)
    (hstep : ∀ i s (hi : i < items.size), J i s → wpAny (model prog w) A.in1 (eqBool items[i] x) (fun b s' => if b = true then R (.ok (.ret (.bool true))) s' else J (i + 1) s') (fun e s' => R (.error e) s') s) (k : Nat) :
    ∀ i s, items.size - i = k → i ≤ items.size → J i s → wpAny (model prog w) A.in1 (Builtin.«list.__contains__.loop» ⟨[.ref l, x, rawInt i], []⟩) (fun fin s' => match fin with | .done f => R (.ok f) s' | .again c' => c'.quiet = true ∧ codeAny (model prog w) A c' R s') (fun e s' => R (.error e) s') s := by
  induction k with
  | zero =>
    intro i s hk hi h
    obtain ⟨n, hl⟩ := hl i s h
    have hend := hend s (by have : i = items.size := by omega
                            rw [← this]; exact h)
    obtain ⟨hp, g, d, tk, os⟩ := s
    wp_walk using wpAny_loadPart' hl
    have hi : items[((i : Nat) : Int).toNat]? = none := by simp; omega
    rw [hi]
    wp_walk
    exact hend
  | succ k ih =>
    intro i s hk hi h
    have hlt : i < items.size := by omega
    obtain ⟨n, hl⟩ := hl i s h
    have st := hstep i s hlt h
    obtain ⟨hp, g, d, tk, os⟩ := s
    wp_walk using wpAny_loadPart' hl
    have hi : items[((i : Nat) : Int).toNat]? = some items[i] := by simp [hlt]
    rw [hi]
    refine wpAny_bind (wpAny_mono st (fun b s' hb => ?_) fun _ _ e => e)
    cases b with
    | true =>
      have hb : R (.ok (.ret (.bool true))) s' := hb
      obtain ⟨hp, g, d, tk, os⟩ := s'
      wp_walk
      exact hb
    | false =>
      have hb : J (i + 1) s' := hb
      have hc : ((i : Int) + 1) = ((i + 1 : Nat) : Int) := by push_cast; rfl
      obtain ⟨hp, g, d, tk, os⟩ := s'
      wp_walk
      rw [hc]
      exact ⟨plainId_quiet plain_contains_loop _, codeAny_builtin entry_contains_loop (by
        rw [Around.under_plainId plain_contains_loop _]
        exact ih (i + 1) _ (by omega) (by omega) hb)⟩
theorem notIn_listJ {prog : Program} {w : World} {A : Around} {E : Value → Shared → Prop} {s : Shared} {Q : Value → Shared → Prop} {l : Addr} {items : Array Value} {dd : Option Addr} {sl : Array (Option Value)} {x : Value} (J : Nat → Shared → Prop)
    (hl : ∀ i s, J i s → ∃ n : Nat, s.heap.get? l = some { cls := .type "list", dict := dd, data := .seq items n, slots := sl }) (hend : ∀ s, J items.size s → Q (.bool true) s)
    (hstep : ∀ i s (hi : i < items.size), J i s → wpAny (model prog w) A.in1 (eqBool items[i] x) (fun b s' => if b = true then Q (.bool false) s' else J (i + 1) s') E s) (h0 : J 0 s) : wpAny (model prog w) A (compareOp .NotIn x (.ref l)) Q E s := by
  obtain ⟨n, hl0⟩ := hl 0 s h0
  show wpAny _ A (do return .bool (!(← contains (.ref l) x))) Q E s
  refine wpAny_bind (wpAny_contains_slot (T := "list") ⟨_, hl0, rfl⟩ F.slot_list_contains (wpAny_mono (call_meetsIn (Q := fun v s' => ∃ b, v = .bool b ∧ Q (.bool (!b)) s') F.slot_list_contains ⟨_, hl0, rfl⟩ F.entry_list_contains (F.args_list_contains_2 _ _)
    (S := fun A' R s' => A' = A ∧ s' = s ∧ R = wants (fun v s' => ∃ b, v = .bool b ∧ Q (.bool (!b)) s') E) (fun A' R s' hS => ?_) ⟨rfl, rfl, rfl⟩) (fun v s' hv => ?_) fun _ _ e => e))
  · obtain ⟨rfl, rfl, rfl⟩ := hS
    have step := contains_loopJ (prog := prog) (w := w) (A := A') (R := wants (fun v s' => ∃ b, v = .bool b ∧ Q (.bool (!b)) s') E) (l := l) (items := items) (x := x) J hl (fun s h => ⟨false, rfl, hend s h⟩) (fun i s hi h => wpAny_mono (hstep i s hi h) (fun b s' hb => by
      cases b with
      | true => exact ⟨true, rfl, hb⟩
      | false => exact hb) fun _ _ e => e) _ 0 s' rfl (Nat.zero_le _) h0
    obtain ⟨hp, g, d, tk, os⟩ := s'
    wp_walk using wpAny_loadPart' hl0
    exact ⟨plainId_quiet plain_contains_loop _, codeAny_builtin entry_contains_loop (by
      rw [Around.under_plainId plain_contains_loop _]
      exact step)⟩
  · obtain ⟨b, rfl, hq⟩ := hv
    exact wpAny_truthy_bool (wpAny_pure hq)
end PySem.SeqAt
namespace Dc
open PySem L2 PyProof.Rows PySem.W PySem.EqInst
section
variable {prog : Program} {w : World} {A : Around} {E : Value → Shared → Prop} {s : Shared} {K : Frag} {x C L f : Addr} {h₀ : Heap} {m : Str → Option Value} {ox : Obj} {od : Option Obj} {b tb : Value}
theorem eqBool_K {Q : Bool → Shared → Prop} (hu : A.units < cLine) (F0 : Fr h₀ L s.heap m) (X₀ : K.In h₀) (I : InstAt s.heap x ox C od) {z : Addr} (hb : Looks (model prog w) s.heap (typeOf (.ref z)) tb) (hn : notFirst K C tb = true) (hs : findIn K (.ref C) "__eq__" = some (some (.ref f))) (hf : isFn K (.ref f) = true)
    (hid : Q true s) (h : wpAny (model prog w) A (call (.ref f) [.ref x, .ref z]) (fun v s' => ∃ r, v = .bool r ∧ Q r s') E s) : wpAny (model prog w) A (eqBool (.ref x) (.ref z)) Q E s := by
  unfold eqBool
  refine wpAny_holding ?_
  refine wpAny_ite_split (fun _ => wpAny_bind (wpAny_rule (wpAny_pure hid))) (fun _ => ?_)
  refine wpAny_bind (cmp_K (op := .Eq) hu F0 X₀ I hb hn hs hf (wpAny_mono h (fun v s' hv => ?_) fun _ _ e => e))
  obtain ⟨r, rfl, hq⟩ := hv
  exact wpAny_truthy_bool hq
end
/-- is it among them: by place, or by the own == -/
def inO (so : Sps) (x : D) (Q : Bool → Prop) : List D → Prop
  | [] => Q false
  | y :: ys => Q true ∧ so [y, x] (fun d _ => match d with | .bl b => if b = true then Q true else inO so x Q ys | _ => False) (fun _ => False)
def rNI (T : Tx) (cn : Nat) (sp : Sps) : R2 := fun x y H Q' => ∃ (c : Dx T) (B : Hp) (os : List D) (rows : List (List D)) (Qb : Bool → Prop), Hold c B H ∧ Den c B x (.obj cn os) ∧ Den c B y (.lst (rows.map (D.obj cn))) ∧ inO sp (.obj cn os) Qb (rows.map (D.obj cn)) ∧
  ∀ b B' H', Qb b → Ex B B' → ExP c H H' → Hold c B' H' → Q' (.bl (!b)) H'
section
variable {X : Cx} {T : Tx} {k cn : Nat} {f : Addr} {fd : FuncData} {ps : List Str} {sp : Sps}
theorem Dens.refs {c : Dx T} {B : Hp} {rows : List (List D)} : ∀ {ys : List V}, Dens c B ys (rows.map (D.obj cn)) → ∃ as : List Addr, ys = as.map V.ref := by
  induction rows with
  | nil =>
    intro ys h
    cases h
    exact ⟨[], rfl⟩
  | cons r rows ih =>
    intro ys h
    rw [List.map_cons] at h
    cases h with
    | cons h1 h2 =>
      obtain ⟨as, rfl⟩ := ih h2
      cases h1 with
      | @obj a _ _ _ _ _ _ => exact ⟨a :: as, rfl⟩
theorem Hold.ent {c : Dx T} {B H H0 : Hp} (h : Hold c B H) : Hold (c.ent H0 c.fb) B H := ⟨h.ex, h.pail, h.fb⟩
theorem on_in (F : FnG X.prog X.w X.K X.mg X.base k f fd ps (spD T 2 sp)) (hr : Room (k + 1) X.A) (hg : X.A.guards = some []) (hb : KB X.K fd ps 2 []) (hs : findIn X.K (.ref (T.cl cn)) "__eq__" = some (some (.ref f))) (hf : isFn X.K (.ref f) = true) (hK : X.K = T.K := by rfl) : OpR X (compareOp .NotIn) (rNI T cn sp) := by
  intro pins s σ H x y v u Q I rx ry ⟨c, B, os, rows, Qb, ho, nx, ny, hin, q⟩
  cases nx with
  | @obj ax dxx xsx _ _ slx rrx =>
  cases ny with
  | @lst l ys _ hl hpl rl =>
  obtain rfl : v = Value.ref ax := rx
  obtain rfl : u = Value.ref l := ry
  obtain ⟨hz, its, n, rr, hob⟩ := I.hok l _ (ho.ex _ _ hl)
  have hlen : its.length = rows.length := by rw [← rr.length, rl.length, List.length_map]
  have sz : its.toArray.size = rows.length := by rw [List.size_toArray]; exact hlen
  refine SeqAt.notIn_listJ (items := its.toArray) (fun i s' => ∃ H' B', Inv X pins σ H' s' ∧ Hold c B' H' ∧ Ex B B' ∧ ExP c H H' ∧ (∃ n : Nat, s'.heap.get? l = some { cls := .type "list", data := .seq its.toArray n }) ∧ inO sp (.obj cn os) Qb ((rows.map (D.obj cn)).drop i)) (fun i s' ⟨_, _, _, _, _, _, e, _⟩ => e)
    (fun s' ⟨H', B', I', ho', e', k', _, h⟩ => ?_) (fun i s' hi ⟨H', B', I', ho', e', k', hg', h⟩ => ?_) ⟨H, B, I, ho, Ex.rfl', ExP.rfl', ⟨n, hob⟩, hin⟩
  · rw [sz, List.drop_eq_nil_of_le (by simp)] at h
    exact ⟨.bl true, H', I', rfl, q false B' H' h e' k' ho'⟩
  · have hi' : i < rows.length := by rw [← sz]; exact hi
    rw [drop_get (by rw [List.length_map]; exact hi')] at h
    obtain ⟨h1, h2⟩ := h
    have hgi : (rows.map (D.obj cn))[i]? = some (.obj cn rows[i]) := by rw [List.getElem?_map, List.getElem?_eq_getElem hi']; rfl
    obtain ⟨yv, hyv, ny⟩ := rl.get hgi
    obtain ⟨w1, hw1, rw1⟩ := rr.get hyv
    have ei : its.toArray[i] = w1 := by
      have := List.getElem?_eq_some_iff.mp hw1
      obtain ⟨h3, h4⟩ := this
      simpa using h4
    rw [ei]
    cases ny with
    | @obj ay dy xsy _ _ sly rry =>
    obtain rfl : w1 = Value.ref ay := rw1
    have ex2 : Ex B H' := e'.trans ho'.ex
    obtain ⟨_, od, _, Jy, _⟩ := SlX.slt_inst I' (ex2.slt sly)
    obtain ⟨_, od2, _, Jx, _⟩ := SlX.slt_inst I' (ex2.slt slx)
    obtain ⟨m, hF⟩ := I'.fr
    refine eqBool_K (A := X.A.in1) hr.in1.units0 hF I'.ok.mod.kin Jy Jx.type nf_self hs hf ?_ (wpAny_mono (own_call2 (x := V.ref ay) (y := V.ref ax) (Q := fun v H' => ∃ b, v = .bl b ∧ ∃ B2, Hold c B2 H' ∧ Ex B B2 ∧ ExP c H H' ∧ (if b = true then Qb true else inO sp (.obj cn os) Qb ((rows.map (D.obj cn)).drop (i + 1)))) F hr.in1 hg I'.env0.in1 hb I' rfl rfl ?_) (fun r s2 hv => ?_) fun _ _ e => e)
    · exact ⟨.bl false, H', I', rfl, q true B' H' h1 e' k' ho'⟩
    · have e0 : (rows.map (D.obj cn))[i]'(by rw [List.length_map]; exact hi') = .obj cn rows[i] := by rw [List.getElem_map]
      rw [e0] at h2
      refine ⟨c.ent H' c.fb, B', [.obj cn rows[i], .obj cn os], _, _, rfl, ho'.ent, .cons (Den.ent _ _ ((Den.obj sly rry).mono e')) (.cons (Den.ent _ _ ((Den.obj slx rrx).mono e')) .nil), rfl, h2, fun d o v B2 H2 hq eb kp hh ro => ?_, fun e cls dd B2 H2 z => z.elim⟩
      cases d <;> first | exact hq.elim | skip
      case bl b =>
        refine ⟨b, ?_, B2, ⟨hh.ex, hh.pail, hh.fb⟩, e'.trans eb, k'.trans kp, hq⟩
        cases ro with
        | p h => cases h; rfl
        | f _ h => cases h
    · obtain ⟨v, H2, I2, rv, b, rfl, B2, hh, eb, kp, hq⟩ := hv
      obtain rfl : r = Value.bool b := rv
      refine ⟨b, rfl, ?_⟩
      cases b with
      | true => exact ⟨.bl false, H2, I2, rfl, q true B2 H2 hq eb kp hh⟩
      | false =>
        obtain ⟨_, its2, n2, rr2, hob2⟩ := I2.hok l _ (kp _ _ hpl (ho.ex _ _ hl))
        obtain ⟨as, rfl⟩ := rl.refs
        have ea : its2 = its := (refs_at rr2).trans (refs_at rr).symm
        subst ea
        exact ⟨H2, B2, I2, hh, eb, kp, ⟨n2, hob2⟩, hq⟩
/-- near not in made -/
def dNI (cn : Nat) (sp : Sps) (ta tb : RE) : RE := fun x ρ Q => ta x ρ fun d1 g1 ρ1 => g1 = .p ∧ tb x ρ1 fun d2 g2 ρ2 => g2 = .p ∧ asObj cn d1 fun os => ∃ rows : List (List D), d2 = .lst (rows.map (D.obj cn)) ∧ inO sp (.obj cn os) (fun b => Q (.bl (!b)) .p ρ2) (rows.map (D.obj cn))
theorem le_ni {W : WX} {ta tb : RE} : ∀ σ H Q', liftE T W (dNI cn sp ta tb) σ H Q' → tOp (rNI T cn sp) (liftE T W ta) (liftE T W tb) σ H Q' := by
  rintro σ H Q' ⟨c, B, ρ, x, Q, R, X, h, q⟩
  refine ⟨c, B, ρ, x, _, R, X, h, fun d1 g1 ρ1 v1 B1 H1 h1 e1 k1 R1 t1 => ?_⟩
  obtain ⟨rfl, h1⟩ := h1
  refine ⟨c, B1, ρ1, x, _, R1, X.up e1, h1, fun d2 g2 ρ2 v2 B2 H2 h2 e2 k2 R2 t2 => ?_⟩
  obtain ⟨rfl, h2⟩ := h2
  cases d1 <;> first | exact h2.elim | skip
  case obj k os =>
    obtain ⟨rfl, rows, rfl, h2⟩ := h2
    cases t1 with
    | p n1 =>
    cases t2 with
    | p n2 =>
      exact ⟨callee c σ H2 ρ2, B2, os, rows, _, callee_hold R2, Den.to (c := c) (c' := callee c σ H2 ρ2) rfl (n1.mono e2), Den.to (c := c) (c' := callee c σ H2 ρ2) rfl n2, h2, fun b B' H' hq e k hh => q _ _ _ _ B' H' hq ((e1.trans e2).trans e) ((k1.trans k2).trans k) (callee_back R2 e k hh) (.p (.bl _))⟩
theorem lt_ni {W : WX} {ta tb : RE} : ∀ σ H Q', liftT T W (dTest (dNI cn sp ta tb)) σ H Q' → tTest (tOp (rNI T cn sp) (liftE T W ta) (liftE T W tb)) σ H Q' := by
  rintro σ H Q' ⟨c, B, ρ, x, Q, R, X, h, q⟩
  refine le_ni σ H _ ⟨c, B, ρ, x, _, R, X, h, fun d g ρ' v B' H' hd e k R' t => ?_⟩
  cases d <;> first | exact hd.elim | skip
  case bl b =>
    have ev := (t.tm R').bl_
    subst ev
    exact ⟨b, rfl, q _ _ B' H' hd e k R'⟩
variable {W : WX} {a b : Expr} {ra rb : RE} {pos : Pos}
theorem qt_ni (ho : OpR X (compareOp .NotIn) (rNI T cn sp)) (ha : PE X a (liftE T W ra)) (hb : PE X b (liftE T W rb)) (hm : behindInMarks .NotIn b = false := by first | exact nobehind _ (by decide) (by decide) | rfl) :
    PT X (.Compare a [.NotIn] [b] pos) (liftT T W (dTest (dNI cn sp ra rb))) := (pt_cmpR ho ha hb hm).imp lt_ni
@[simp] theorem o_ni {x : XQ} {ρ : Env} {Q : EQ} : dNI cn sp ra rb x ρ Q = ra x ρ fun d1 g1 ρ1 => g1 = .p ∧ rb x ρ1 fun d2 g2 ρ2 => g2 = .p ∧ asObj cn d1 fun os => ∃ rows : List (List D), d2 = .lst (rows.map (D.obj cn)) ∧ inO sp (.obj cn os) (fun b => Q (.bl (!b)) .p ρ2) (rows.map (D.obj cn)) := rfl
end
end Dc
set_option maxHeartbeats 1000000
namespace Dc
open PySem L2 PyProof.Rows PySem.W
/-! ### plain facts: texts of numbers, rows as data -/
abbrev tl10 : List Nat := [10]
def numS (i : Int) : Str := SX.S (TL.numL i.toNat)
theorem numS_eq {i : Int} (h : 0 ≤ i) : Str.ofString (toString i) = numS i := by
  obtain ⟨n, rfl⟩ := Int.eq_ofNat_of_zero_le h
  exact SX.num_S n
theorem numL_len32 {i : Int} (h : 0 ≤ i) (h2 : i < 10 ^ 32) : (TL.numL i.toNat).length ≤ 32 := TL.numL_len (by decide) (by omega)
theorem numS_len {i : Int} (h : 0 ≤ i) (h2 : i < 10 ^ 32) : (numS i).length ≤ 32 := by
  rw [numS, SX.S_len]; exact numL_len32 h h2
theorem log_small {i : Int} (h : i.natAbs < 2 ^ 1000) : i.natAbs.log2 < 1920 := by
  by_cases h0 : i.natAbs = 0
  · rw [h0]; decide
  · have := (Nat.log2_lt h0).mpr h
    omega
theorem log_ok {i : Int} (h : 0 ≤ i) (h2 : i < 10 ^ 70) : i.natAbs.log2 < 1920 := log_small (by
  have h3 : i.natAbs < 10 ^ 70 := by omega
  exact Nat.lt_trans h3 (by decide +kernel))
theorem small_line {n : Nat} (h : n ≤ 1000000) : n ≤ sizeLine := Nat.le_trans h (by decide)

/-- a kind as data, kinds as data -/
def pD (p : Int × Int) : D := .tup [.int p.1, .int p.2]
def kD (l : List (Int × Int)) : D := .tup (l.map pD)
def KindOk (p : Int × Int) : Prop := 0 ≤ p.1 ∧ p.1 ≤ 10 ^ 31 ∧ 1 ≤ p.2 ∧ p.2 ≤ 10 ^ 30
structure GoodK (l : List (Int × Int)) : Prop where
  ne : l ≠ []
  len : l.length ≤ 10
  ok : ∀ p ∈ l, KindOk p
  desc : l.Pairwise fun p q => q.1 < p.1
def lineL (p : Int × Int) : List Nat := TL.numL p.1.toNat ++ ([32, 120, 32] ++ TL.numL p.2.toNat)
def lineS (p : Int × Int) : Str := SX.S (lineL p)
def rowL (l : List (Int × Int)) : List (List Nat) := [114, 111, 119] :: l.map lineL
def textS (l : List (Int × Int)) : Str := Txt.join (SX.S [10]) ((rowL l).map SX.S)
theorem textS_S (l : List (Int × Int)) : textS l = SX.S (TL.joinL [10] (rowL l)) := SX.join_S _ _
def placesK (l : List (Int × Int)) : Int := (l.map fun p => p.2).sum
def endsK (l : List (Int × Int)) : Int := (l.map fun p => p.1 * p.2).sum
theorem lineL_len {p : Int × Int} (h : KindOk p) : (lineL p).length ≤ 67 := by
  obtain ⟨h1, h2, h3, h4⟩ := h
  have a := numL_len32 h1 (by omega)
  have b := numL_len32 (i := p.2) (by omega) (by omega)
  unfold lineL
  simp only [List.length_append, List.length_cons, List.length_nil]
  omega
theorem lineS_len {p : Int × Int} (h : KindOk p) : (lineS p).length ≤ 67 := by
  rw [lineS, SX.S_len]; exact lineL_len h
theorem lineL_free {p : Int × Int} : 10 ∉ lineL p := by
  unfold lineL
  simp only [List.mem_append, not_or]
  exact ⟨TL.numL_free (by decide), by decide, TL.numL_free (by decide)⟩
theorem S10 : ("\n" : Str) = SX.S [10] := rfl
theorem Srow : ("row" : Str) = SX.S [114, 111, 119] := rfl
theorem Sx : (" x " : Str) = SX.S [32, 120, 32] := rfl
theorem Ssp : (" " : Str) = SX.S [32] := rfl
theorem S_x : ("x" : Str) = SX.S [120] := rfl
theorem Semp : Str.empty = SX.S [] := rfl
theorem lineS_f {p : Int × Int} (h : KindOk p) : Str.empty ++ Str.ofString (toString p.1) ++ " x " ++ Str.ofString (toString p.2) = lineS p := by
  obtain ⟨h1, h2, h3, h4⟩ := h
  rw [numS_eq h1, numS_eq (i := p.2) (by omega), Semp, Sx, numS, numS, SX.S_cat, SX.S_cat, SX.S_cat, lineS, lineL, List.nil_append, List.append_assoc]
theorem lineS_g {p : Int × Int} (h : KindOk p) : Str.ofString (toString p.1) ++ " x " ++ Str.ofString (toString p.2) = lineS p := by
  obtain ⟨h1, h2, h3, h4⟩ := h
  rw [numS_eq h1, numS_eq (i := p.2) (by omega), Sx, numS, numS, SX.S_cat, SX.S_cat, lineS, lineL, List.append_assoc]
/-- a row's text, split into its lines -/
theorem split_text (l : List (Int × Int)) : Txt.split (textS l) "\n" = (rowL l).map SX.S := by
  rw [textS_S, S10, SX.split_S (by decide) (by decide), SX.spl_join (by simp [rowL])]
  intro p hp
  unfold rowL at hp
  rcases List.mem_cons.mp hp with rfl | hp
  · decide
  · obtain ⟨q, _, rfl⟩ := List.mem_map.mp hp
    exact lineL_free
/-- a line, split into its words -/
theorem split_line (p : Int × Int) : Txt.split (lineS p) " " = [numS p.1, "x", numS p.2] := by
  have e : lineL p = TL.joinL [32] [TL.numL p.1.toNat, [120], TL.numL p.2.toNat] := by
    unfold lineL
    simp [TL.joinL]
  rw [lineS, Ssp, SX.split_S (by decide) (by decide), e, SX.spl_join (by simp)]
  · rfl
  · intro q hq
    simp only [List.mem_cons, List.not_mem_nil, or_false] at hq
    rcases hq with rfl | rfl | rfl
    · exact TL.numL_free (by decide)
    · decide
    · exact TL.numL_free (by decide)
theorem joinL_len : ∀ (s : List Nat) (ls : List (List Nat)) (k : Nat), (∀ x ∈ ls, x.length ≤ k) → (TL.joinL s ls).length ≤ ls.length * (k + s.length)
  | _, [], _, _ => by simp [TL.joinL]
  | s, [x], k, h => by
    have := h x (by simp)
    show x.length ≤ _
    simp only [List.length_cons, List.length_nil]
    omega
  | s, x :: y :: r, k, h => by
    have := h x (by simp)
    have ih := joinL_len s (y :: r) k fun z hz => h z (List.mem_cons_of_mem _ hz)
    show (x ++ (s ++ TL.joinL s (y :: r))).length ≤ (r.length + 1 + 1) * (k + s.length)
    rw [List.length_append, List.length_append, Nat.succ_mul]
    simp only [List.length_cons] at ih
    omega
theorem rowL_len {l : List (Int × Int)} (h : ∀ p ∈ l, KindOk p) : ∀ x ∈ rowL l, x.length ≤ 67 := fun x hx => by
  unfold rowL at hx
  rcases List.mem_cons.mp hx with rfl | hx
  · decide
  · obtain ⟨p, hp, rfl⟩ := List.mem_map.mp hx
    exact lineL_len (h p hp)
theorem textS_len {l : List (Int × Int)} (h : GoodK l) : (textS l).length ≤ 1000 := by
  have a := joinL_len [10] (rowL l) 67 (rowL_len h.ok)
  have b : (rowL l).length ≤ 11 := by simp only [rowL, List.length_cons, List.length_map]; have := h.len; omega
  rw [textS_S, SX.S_len]
  simp only [List.length_cons, List.length_nil] at a
  have c : (rowL l).length * (67 + (0 + 1)) ≤ 11 * 68 := Nat.mul_le_mul_right _ b
  omega
/-- its digits, read again -/
theorem intText_num {i : Int} (h : 0 ≤ i) (h2 : i < 10 ^ 32) : PySem.intText? (numS i) = some i := by
  obtain ⟨n, rfl⟩ := Int.eq_ofNat_of_zero_le h
  have := TL.int_num (n := n) (by have := numL_len32 h h2; simp only [Int.ofNat_eq_natCast, Int.toNat_natCast] at this; omega)
  rw [numS, ← SX.num_S] <;> simpa using this
theorem text_sum {l : List (Int × Int)} (h : GoodK l) : (((("row" : Str) :: l.map lineS).map (·.length)).sum + (("row" : Str) :: l.map lineS).length * ("\n" : Str).length ≤ 16777216) := by
  have a : ((l.map lineS).map (·.length)).sum ≤ l.length * 67 := by
    have ok := h.ok
    clear h
    induction l with
    | nil => exact Nat.zero_le _
    | cons p l ih =>
      have h1 := lineS_len (ok p (by simp))
      have h2 := ih fun q hq => ok q (List.mem_cons_of_mem _ hq)
      simp only [List.map_cons, List.sum_cons, List.length_cons]
      omega
  have e1 : ("\n" : Str).length = 1 := rfl
  have e2 : ("row" : Str).length = 3 := rfl
  have := h.len
  simp only [List.map_cons, List.sum_cons, List.length_cons, List.length_map, e1, e2] at a ⊢
  omega
theorem text_eq (l : List (Int × Int)) : Txt.join ("\n" : Str) (("row" : Str) :: l.map lineS) = textS l := by
  rw [textS, rowL, List.map_cons, List.map_map]
  rfl
end Dc
set_option maxHeartbeats 1000000
namespace Dc
open PySem L2 PyProof.Rows PySem.W
/-! ### what can be compared and shown -/
mutual
def tame : D → Bool
  | .non => true
  | .bl _ => true
  | .int i => decide (i.natAbs.log2 < 1920)
  | .str x => PyData.strOk x
  | .tup xs => tames xs
  | .lst xs => tames xs
  | _ => false
def tames : List D → Bool
  | [] => true
  | x :: xs => tame x && tames xs
end
mutual
/-- at most so many signs -/
def shW : D → Nat
  | .int _ => 1921
  | .str x => 10 * x.length + 2
  | .tup xs => shWs xs + 3
  | .lst xs => shWs xs + 3
  | _ => 5
def shWs : List D → Nat
  | [] => 0
  | x :: xs => shW x + 2 + shWs xs
end
mutual
def dep : D → Nat
  | .tup xs => deps xs + 1
  | .lst xs => deps xs + 1
  | _ => 0
def deps : List D → Nat
  | [] => 0
  | x :: xs => max (dep x) (deps xs)
end
mutual
theorem tame_flat : ∀ {d : D}, tame d = true → flat d = true
  | .non, _ => rfl
  | .bl _, _ => rfl
  | .int _, _ => rfl
  | .str _, _ => rfl
  | .tup xs, h => tames_flat (show tames xs = true from h)
  | .lst xs, h => tames_flat (show tames xs = true from h)
  | .dic _, h => Bool.noConfusion (show false = true from h)
  | .obj _ _, h => Bool.noConfusion (show false = true from h)
  | .ptr, h => Bool.noConfusion (show false = true from h)
  | .clo _ _, h => Bool.noConfusion (show false = true from h)
  | .exc _ _, h => Bool.noConfusion (show false = true from h)
  | .adr _, h => Bool.noConfusion (show false = true from h)
  | .scr _, h => Bool.noConfusion (show false = true from h)
  | .tpz _, h => Bool.noConfusion (show false = true from h)
theorem tames_flat : ∀ {ds : List D}, tames ds = true → flats ds = true
  | [], _ => rfl
  | x :: xs, h => by
    have h : (tame x && tames xs) = true := h
    rw [Bool.and_eq_true] at h
    show (flat x && flats xs) = true
    rw [tame_flat h.1, tames_flat h.2]; rfl
end
mutual
theorem tame_lay : ∀ {d : D}, tame d = true → (py d).canLay0 = true
  | .non, _ => rfl
  | .bl _, _ => rfl
  | .int _, _ => rfl
  | .str _, h => h
  | .tup xs, h => tames_lay (show tames xs = true from h)
  | .lst xs, h => tames_lay (show tames xs = true from h)
  | .dic _, h => Bool.noConfusion (show false = true from h)
  | .obj _ _, h => Bool.noConfusion (show false = true from h)
  | .ptr, h => Bool.noConfusion (show false = true from h)
  | .clo _ _, h => Bool.noConfusion (show false = true from h)
  | .exc _ _, h => Bool.noConfusion (show false = true from h)
  | .adr _, h => Bool.noConfusion (show false = true from h)
  | .scr _, h => Bool.noConfusion (show false = true from h)
  | .tpz _, h => Bool.noConfusion (show false = true from h)
theorem tames_lay : ∀ {ds : List D}, tames ds = true → PyData.canLayAll0 (pys ds) = true
  | [], _ => rfl
  | x :: xs, h => by
    have h : (tame x && tames xs) = true := h
    rw [Bool.and_eq_true] at h
    show ((py x).canLay0 && PyData.canLayAll0 (pys xs)) = true
    rw [tame_lay h.1, tames_lay h.2]; rfl
end
mutual
theorem tame_show : ∀ {d : D}, tame d = true → (py d).showable = true
  | .non, _ => rfl
  | .bl _, _ => rfl
  | .int _, h => h
  | .str _, _ => rfl
  | .tup xs, h => tames_show (show tames xs = true from h)
  | .lst xs, h => tames_show (show tames xs = true from h)
  | .dic _, h => Bool.noConfusion (show false = true from h)
  | .obj _ _, h => Bool.noConfusion (show false = true from h)
  | .ptr, h => Bool.noConfusion (show false = true from h)
  | .clo _ _, h => Bool.noConfusion (show false = true from h)
  | .exc _ _, h => Bool.noConfusion (show false = true from h)
  | .adr _, h => Bool.noConfusion (show false = true from h)
  | .scr _, h => Bool.noConfusion (show false = true from h)
  | .tpz _, h => Bool.noConfusion (show false = true from h)
theorem tames_show : ∀ {ds : List D}, tames ds = true → PyData.showableAll (pys ds) = true
  | [], _ => rfl
  | x :: xs, h => by
    have h : (tame x && tames xs) = true := h
    rw [Bool.and_eq_true] at h
    show ((py x).showable && PyData.showableAll (pys xs)) = true
    rw [tame_show h.1, tames_show h.2]; rfl
end
theorem listText_len : ∀ ts : List Str, (listText ts).length ≤ piled ts + 3
  | [] => by decide
  | t :: ts => by
    unfold listText
    rw [strLen_append]
    have e0 : ((("]" : String) : Str)).length = 1 := rfl
    have e1 : ((("[" : String) : Str)).length = 1 := rfl
    show (textFrom 1 (("[" : String) ++ (if 0 > 0 then ", " else "" : String) ++ t) ts).length + _ ≤ _
    rw [textFrom_length_pos ts 1 _ (by decide), strLen_append, strLen_append, e0, e1, piled_cons]
    have e2 : (((if 0 > 0 then ", " else "" : String) : Str)).length = 0 := rfl
    rw [e2]; omega
theorem tupleText_len (ts : List Str) : (tupleText ts).length ≤ piled ts + 3 := by
  unfold tupleText
  rw [strLen_append, strLen_append]
  have e1 : ((("(" : String) : Str)).length = 1 := rfl
  have e3 : (((if ts.length == 1 then ",)" else ")" : String) : Str)).length ≤ 2 := by split <;> decide
  rw [e1]
  by_cases h : ts = []
  · subst h
    decide
  · have := join_length_add ts h
    omega
mutual
theorem shW_ok : ∀ {d : D}, tame d = true → (shD d).length ≤ shW d
  | .non, _ => by decide
  | .bl true, _ => by decide
  | .bl false, _ => by decide
  | .int i, h => int_text_len_1921 (of_decide_eq_true h)
  | .str x, h => by
    refine StrLaws.reprText_len x fun c hc => ?_
    have h : x.cps.all (· < 0x110000) = true := h
    rw [← Array.all_toList] at h
    have := of_decide_eq_true (List.all_eq_true.mp h c hc)
    exact Nat.lt_trans this (by decide)
  | .tup xs, h => by
    have := shWs_ok (show tames xs = true from h)
    have := tupleText_len (PyData.shownAll (pys xs))
    show (tupleText (PyData.shownAll (pys xs))).length ≤ shWs xs + 3
    omega
  | .lst xs, h => by
    have := shWs_ok (show tames xs = true from h)
    have := listText_len (PyData.shownAll (pys xs))
    show (listText (PyData.shownAll (pys xs))).length ≤ shWs xs + 3
    omega
  | .dic _, h => Bool.noConfusion (show false = true from h)
  | .obj _ _, h => Bool.noConfusion (show false = true from h)
  | .ptr, h => Bool.noConfusion (show false = true from h)
  | .clo _ _, h => Bool.noConfusion (show false = true from h)
  | .exc _ _, h => Bool.noConfusion (show false = true from h)
  | .adr _, h => Bool.noConfusion (show false = true from h)
  | .scr _, h => Bool.noConfusion (show false = true from h)
  | .tpz _, h => Bool.noConfusion (show false = true from h)
theorem shWs_ok : ∀ {ds : List D}, tames ds = true → piled (PyData.shownAll (pys ds)) ≤ shWs ds
  | [], _ => Nat.le_refl 0
  | x :: xs, h => by
    have h : (tame x && tames xs) = true := h
    rw [Bool.and_eq_true] at h
    have h1 : (py x).shown.length ≤ shW x := shW_ok h.1
    have h2 := shWs_ok h.2
    show piled ((py x).shown :: PyData.shownAll (pys xs)) ≤ shW x + 2 + shWs xs
    rw [piled_cons]; omega
end
mutual
theorem dep_ok : ∀ d : D, (py d).depth ≤ dep d
  | .non => Nat.le_refl _
  | .bl _ => Nat.le_refl _
  | .int _ => Nat.le_refl _
  | .str _ => Nat.le_refl _
  | .tup xs => by
    have := deps_ok xs
    show PyData.depthAll (pys xs) + 1 ≤ deps xs + 1
    omega
  | .lst xs => by
    have := deps_ok xs
    show PyData.depthAll (pys xs) + 1 ≤ deps xs + 1
    omega
  | .dic _ => Nat.le_refl _
  | .obj _ _ => Nat.le_refl _
  | .ptr => Nat.le_refl _
  | .clo _ _ => Nat.le_refl _
  | .exc _ _ => Nat.le_refl _
  | .adr _ => Nat.le_refl _
  | .scr _ => Nat.le_refl _
  | .tpz _ => Nat.le_refl _
theorem deps_ok : ∀ ds : List D, PyData.depthAll (pys ds) ≤ deps ds
  | [] => Nat.le_refl _
  | x :: xs => by
    have h1 := dep_ok x
    have h2 := deps_ok xs
    show max (py x).depth (PyData.depthAll (pys xs)) ≤ max (dep x) (deps xs)
    omega
end
theorem okEq_of {d : D} (h : tame d = true) (h2 : dep d ≤ 60) : okEq d := by
  refine ⟨tame_flat h, ?_⟩
  unfold SeqAt.shaped
  rw [tame_lay h, decide_eq_true (Nat.le_trans (dep_ok d) (by omega))]; rfl
theorem okSh_of {d : D} (h : tame d = true) (h2 : dep d ≤ 60) (h3 : shW d ≤ sizeLine) : okSh d := ⟨tame_flat h, tame_show h, Nat.le_trans (shW_ok h) h3, Nat.le_trans (dep_ok d) h2⟩
theorem tames_all {ds : List D} (h : ∀ d ∈ ds, tame d = true) : tames ds = true := by
  induction ds with
  | nil => rfl
  | cons x xs ih =>
    show (tame x && tames xs) = true
    rw [h x (by simp), ih fun d hd => h d (List.mem_cons_of_mem _ hd)]; rfl
theorem deps_all {n : Nat} {ds : List D} (h : ∀ d ∈ ds, dep d ≤ n) : deps ds ≤ n := by
  induction ds with
  | nil => exact Nat.zero_le _
  | cons x xs ih =>
    have := ih fun d hd => h d (List.mem_cons_of_mem _ hd)
    have := h x (by simp)
    show max (dep x) (deps xs) ≤ n
    omega
theorem shWs_all {n : Nat} {ds : List D} (h : ∀ d ∈ ds, shW d ≤ n) : shWs ds ≤ ds.length * (n + 2) := by
  induction ds with
  | nil => exact Nat.zero_le _
  | cons x xs ih =>
    have := ih fun d hd => h d (List.mem_cons_of_mem _ hd)
    have := h x (by simp)
    show shW x + 2 + shWs xs ≤ (xs.length + 1) * (n + 2)
    rw [Nat.succ_mul]; omega
@[simp] theorem tame_i {i : Int} : tame (.int i) = decide (i.natAbs.log2 < 1920) := rfl
@[simp] theorem tame_s {x : Str} : tame (.str x) = PyData.strOk x := rfl
@[simp] theorem tame_t {xs : List D} : tame (.tup xs) = tames xs := rfl
@[simp] theorem tame_l {xs : List D} : tame (.lst xs) = tames xs := rfl
@[simp] theorem tame_n : tame .non = true := rfl
@[simp] theorem tame_b {b : Bool} : tame (.bl b) = true := rfl
@[simp] theorem tames_n : tames [] = true := rfl
@[simp] theorem tames_c {x : D} {xs : List D} : tames (x :: xs) = (tame x && tames xs) := rfl
@[simp] theorem shW_i {i : Int} : shW (.int i) = 1921 := rfl
@[simp] theorem shW_s {x : Str} : shW (.str x) = 10 * x.length + 2 := rfl
@[simp] theorem shW_t {xs : List D} : shW (.tup xs) = shWs xs + 3 := rfl
@[simp] theorem shW_l {xs : List D} : shW (.lst xs) = shWs xs + 3 := rfl
@[simp] theorem shW_n : shW .non = 5 := rfl
@[simp] theorem shW_b {b : Bool} : shW (.bl b) = 5 := rfl
@[simp] theorem shWs_n : shWs [] = 0 := rfl
@[simp] theorem shWs_c {x : D} {xs : List D} : shWs (x :: xs) = shW x + 2 + shWs xs := rfl
@[simp] theorem dep_i {i : Int} : dep (.int i) = 0 := rfl
@[simp] theorem dep_s {x : Str} : dep (.str x) = 0 := rfl
@[simp] theorem dep_t {xs : List D} : dep (.tup xs) = deps xs + 1 := rfl
@[simp] theorem dep_l {xs : List D} : dep (.lst xs) = deps xs + 1 := rfl
@[simp] theorem dep_n : dep .non = 0 := rfl
@[simp] theorem dep_b {b : Bool} : dep (.bl b) = 0 := rfl
@[simp] theorem deps_n : deps [] = 0 := rfl
@[simp] theorem deps_c {x : D} {xs : List D} : deps (x :: xs) = max (dep x) (deps xs) := rfl
theorem strOk_S {l : List Nat} (h : ∀ c ∈ l, c < 256) : PyData.strOk (SX.S l) = true := by
  show (SX.S l).cps.all (· < 0x110000) = true
  rw [← Array.all_toList]
  exact List.all_eq_true.mpr fun c hc => decide_eq_true (Nat.lt_trans (h c hc) (by decide))
theorem numL_256 (n : Nat) : ∀ c ∈ TL.numL n, c < 256 := fun c hc => by
  have := TL.numL_digits n c hc
  omega
theorem strOk_num (i : Int) : PyData.strOk (numS i) = true := strOk_S (numL_256 _)
theorem lineL_256 (p : Int × Int) : ∀ c ∈ lineL p, c < 256 := fun c hc => by
  unfold lineL at hc
  rcases List.mem_append.mp hc with hc | hc
  · exact numL_256 _ c hc
  · rcases List.mem_append.mp hc with hc | hc
    · simp only [List.mem_cons, List.not_mem_nil, or_false] at hc
      rcases hc with rfl | rfl | rfl <;> decide
    · exact numL_256 _ c hc
theorem joinL_256 : ∀ (s : List Nat) (ls : List (List Nat)), (∀ c ∈ s, c < 256) → (∀ x ∈ ls, ∀ c ∈ x, c < 256) → ∀ c ∈ TL.joinL s ls, c < 256
  | _, [], _, _ => by simp [TL.joinL]
  | s, [x], _, h => h x (by simp)
  | s, x :: y :: r, hs, h => fun c hc => by
    have hc : c ∈ x ++ (s ++ TL.joinL s (y :: r)) := hc
    rcases List.mem_append.mp hc with hc | hc
    · exact h x (by simp) c hc
    · rcases List.mem_append.mp hc with hc | hc
      · exact hs c hc
      · exact joinL_256 s (y :: r) hs (fun z hz => h z (List.mem_cons_of_mem _ hz)) c hc
theorem strOk_text (l : List (Int × Int)) : PyData.strOk (textS l) = true := by
  rw [textS_S]
  refine strOk_S (joinL_256 _ _ (by decide) fun x hx => ?_)
  unfold rowL at hx
  rcases List.mem_cons.mp hx with rfl | hx
  · decide
  · obtain ⟨p, _, rfl⟩ := List.mem_map.mp hx
    exact lineL_256 p
theorem log_kind {p : Int × Int} (h : KindOk p) : p.1.natAbs.log2 < 1920 ∧ p.2.natAbs.log2 < 1920 := by
  obtain ⟨h1, h2, h3, h4⟩ := h
  exact ⟨log_ok h1 (by omega), log_ok (by omega) (by omega)⟩
theorem tame_p {p : Int × Int} (h : KindOk p) : tame (pD p) = true := by
  have := log_kind h
  simp [pD, this.1, this.2]
theorem dep_p (p : Int × Int) : dep (pD p) = 1 := rfl
theorem tame_kD {l : List (Int × Int)} (h : ∀ p ∈ l, KindOk p) : tame (kD l) = true := tames_all fun d hd => by
  obtain ⟨p, hp, rfl⟩ := List.mem_map.mp hd
  exact tame_p (h p hp)
theorem dep_kD (l : List (Int × Int)) : dep (kD l) ≤ 2 := by
  have : deps (l.map pD) ≤ 1 := deps_all fun d hd => by
    obtain ⟨p, hp, rfl⟩ := List.mem_map.mp hd
    exact Nat.le_refl _
  show deps (l.map pD) + 1 ≤ 2
  omega
theorem shW_kD (l : List (Int × Int)) : shW (kD l) ≤ l.length * 4000 + 3 := by
  have : shWs (l.map pD) ≤ (l.map pD).length * (3998 + 2) := shWs_all fun d hd => by
    obtain ⟨p, hp, rfl⟩ := List.mem_map.mp hd
    simp [pD]
  rw [List.length_map] at this
  exact Nat.add_le_add_right this 3
theorem okEq_kD {l : List (Int × Int)} (h : ∀ p ∈ l, KindOk p) : okEq (kD l) := okEq_of (tame_kD h) (Nat.le_trans (dep_kD l) (by decide))
theorem okEq_n : okEq .non := okEq_of rfl (Nat.zero_le _)
theorem okEq_b {b : Bool} : okEq (.bl b) := okEq_of rfl (Nat.zero_le _)
theorem okEq_i {i : Int} : okEq (.int i) := ⟨rfl, rfl⟩
theorem okEq_s {x : Str} (h : PyData.strOk x = true) : okEq (.str x) := okEq_of h (Nat.zero_le _)
@[simp] theorem eqD_i {i j : Int} : eqD (.int i) (.int j) = (i == j) := rfl
@[simp] theorem eqD_s {x y : Str} : eqD (.str x) (.str y) = (x == y) := rfl
@[simp] theorem eqD_nn : eqD .non .non = true := rfl
@[simp] theorem eqD_ni {i : Int} : eqD .non (.int i) = false := rfl
@[simp] theorem eqD_in {i : Int} : eqD (.int i) .non = false := rfl
@[simp] theorem eqD_tn {xs : List D} : eqD (.tup xs) .non = false := rfl

/-! ### comprehensions without a condition, loops -/
theorem lcL_yes {own : List Nat} {ρ : Env} {g : RG} {te : RE} {k : List D → Prop} (f : D → D) : ∀ {ds acc : List D}, (∀ d ∈ ds, ∀ R : D → Prop, R (f d) → g d ρ fun ρ1 => te noX ρ1 fun e ge ρ3 => wipeE (leak e ge ρ3) own = ρ ∧ R e) → k (acc ++ ds.map f) → lcL own ρ g dYes te ds acc k
  | [], acc, _, hk => by
    show k acc
    simpa using hk
  | d :: ds, acc, h, hk => by
    show g d ρ fun ρ1 => te noX ρ1 fun e ge ρ3 => wipeE (leak e ge ρ3) own = ρ ∧ lcL own ρ g dYes te ds (acc ++ [e]) k
    refine h d (by simp) _ (lcL_yes f (fun d hd => h d (List.mem_cons_of_mem _ hd)) ?_)
    simpa using hk
theorem lcL_map {α : Type} {own : List Nat} {ρ : Env} {g : RG} {te : RE} {k : List D → Prop} (h f : α → D) : ∀ {l : List α} {acc : List D}, (∀ a ∈ l, ∀ R : D → Prop, R (f a) → g (h a) ρ fun ρ1 => te noX ρ1 fun e ge ρ3 => wipeE (leak e ge ρ3) own = ρ ∧ R e) → k (acc ++ l.map f) → lcL own ρ g dYes te (l.map h) acc k
  | [], acc, _, hk => by
    show k acc
    simpa using hk
  | a :: l, acc, hs, hk => by
    show g (h a) ρ fun ρ1 => te noX ρ1 fun e ge ρ3 => wipeE (leak e ge ρ3) own = ρ ∧ lcL own ρ g dYes te (l.map h) (acc ++ [e]) k
    refine hs a (by simp) _ (lcL_map h f (fun d hd => hs d (List.mem_cons_of_mem _ hd)) ?_)
    simpa using hk
theorem lcL_filter {α : Type} {own : List Nat} {ρ : Env} {g : RG} {tt : RT} {te : RE} {k : List D → Prop} (h f : α → D) (p : α → Bool) : ∀ {l : List α} {acc : List D}, (∀ a ∈ l, ∀ (R : D → Prop) (N : Prop), (p a = true → R (f a)) → (p a = false → N) → g (h a) ρ fun ρ1 => tt noX ρ1 fun b ρ2 => if b = true then te noX ρ2 fun e ge ρ3 => wipeE (leak e ge ρ3) own = ρ ∧ R e else wipeE ρ2 own = ρ ∧ N) → k (acc ++ (l.filter p).map f) → lcL own ρ g tt te (l.map h) acc k
  | [], acc, _, hk => by
    show k acc
    simpa using hk
  | a :: l, acc, hs, hk => by
    refine hs a (by simp) _ _ (fun e => lcL_filter h f p (fun d hd => hs d (List.mem_cons_of_mem _ hd)) ?_) (fun e => lcL_filter h f p (fun d hd => hs d (List.mem_cons_of_mem _ hd)) ?_)
    · simpa [e] using hk
    · simpa [e] using hk
/-- a slot that owns nothing -/
def NO (s : Sl) : Prop := s = .no ∨ ∃ d, s = .sh d
theorem NO.no : NO .no := .inl rfl
theorem NO.sh {d : D} : NO (.sh d) := .inr ⟨d, rfl⟩
theorem loop_inv {g : RG} {tb : RS} {k : Kd} (I : Nat → Env → Prop) : ∀ {ds : List D} {ρ : Env} {n : Nat}, I n ρ → (∀ d ∈ ds, ∀ (i : Nat) (ρ : Env) (K : Env → Prop), i < n + ds.length → I i ρ → (∀ ρ', I (i + 1) ρ' → K ρ') → g d ρ fun ρ1 => tb { k with nx := K, ct := K, bk := k.nx } ρ1) → (∀ ρ, I (n + ds.length) ρ → k.nx ρ) → dLoop g tb k ds ρ
  | [], ρ, n, h, _, hk => hk ρ h
  | d :: ds, ρ, n, h, hs, hk => by
    show g d ρ fun ρ1 => tb { k with nx := dLoop g tb k ds, ct := dLoop g tb k ds, bk := k.nx } ρ1
    have e : n + 1 + ds.length = n + (d :: ds).length := by simp only [List.length_cons]; omega
    refine hs d (by simp) n ρ _ (by simp only [List.length_cons]; omega) h fun ρ' h' => loop_inv I h' (fun d hd i ρ K hi => hs d (List.mem_cons_of_mem _ hd) i ρ K (by rw [← e]; exact hi)) fun ρ'' h'' => hk ρ'' ?_
    rw [← e]; exact h''
end Dc
set_option maxHeartbeats 1000000
namespace Dc
open PySem L2 PyProof.Rows PySem.W
/-! ### operators at known things -/
section
variable {a b c d : D} {r xs : List D} {k : D → Tag → Prop} {i j : Int} {x y : Str} {g : Bool → Bool}
theorem atI_get {α : Type} {xs : List α} {i : Nat} : atI xs (i : Int) = xs[i]? := by
  unfold atI ixN
  rw [if_pos (Int.natCast_nonneg i)]
  by_cases h : i < xs.length
  · rw [if_pos (by omega)]; rfl
  · rw [if_neg (by omega), List.getElem?_eq_none (by omega)]; rfl
theorem atI0 {α : Type} {a : α} {r : List α} : atI (a :: r) 0 = some a := atI_get (i := 0)
theorem atI1 {α : Type} {a b : α} {r : List α} : atI (a :: b :: r) 1 = some b := atI_get (i := 1)
theorem atI2 {α : Type} {a b c : α} {r : List α} : atI (a :: b :: c :: r) 2 = some c := atI_get (i := 2)
theorem ex_eq {α : Type} {o : Option α} {z : α} {p : α → Prop} (h : o = some z) : (∃ d, o = some d ∧ p d) = p z := by
  subst h
  exact propext ⟨fun ⟨d, e, q⟩ => by cases e; exact q, fun q => ⟨_, rfl, q⟩⟩
@[simp] theorem v_ixt0 : fIxA (.tup (a :: r)) (.int 0) k = k a .p := ex_eq atI0
@[simp] theorem v_ixt1 : fIxA (.tup (a :: b :: r)) (.int 1) k = k b .p := ex_eq atI1
@[simp] theorem v_ixt2 : fIxA (.tup (a :: b :: c :: r)) (.int 2) k = k c .p := ex_eq atI2
@[simp] theorem v_ixl0 : fIxA (.lst (a :: r)) (.int 0) k = k a .p := ex_eq atI0
@[simp] theorem v_ixl1 : fIxA (.lst (a :: b :: r)) (.int 1) k = k b .p := ex_eq atI1
@[simp] theorem v_ixl2 : fIxA (.lst (a :: b :: c :: r)) (.int 2) k = k c .p := ex_eq atI2
theorem v_ixt (h : atI xs i = some d) : fIxA (.tup xs) (.int i) k = k d .p := ex_eq h
theorem v_ixl (h : atI xs i = some d) : fIxA (.lst xs) (.int i) k = k d .p := ex_eq h
@[simp] theorem v_ord {p : Int → Int → Bool} : fOrd p (.int i) (.int j) k = k (.bl (p i j)) .p := rfl
@[simp] theorem v_is : fIsN g a .non k = k (.bl (g (isNonD a))) .p := propext ⟨fun h => h.2, fun h => ⟨rfl, h⟩⟩
@[simp] theorem v_eqi : fEq (.int i) (.int j) k = k (.bl (i == j)) .p := propext ⟨fun h => h.2.2, fun h => ⟨okEq_i, okEq_i, h⟩⟩
@[simp] theorem v_nei : fNe (.int i) (.int j) k = k (.bl (!(i == j))) .p := propext ⟨fun h => h.2.2, fun h => ⟨okEq_i, okEq_i, h⟩⟩
theorem v_eqs (h1 : PyData.strOk x = true) (h2 : PyData.strOk y = true) : fEq (.str x) (.str y) k = k (.bl (x == y)) .p := propext ⟨fun h => h.2.2, fun h => ⟨okEq_s h1, okEq_s h2, h⟩⟩
theorem v_nes (h1 : PyData.strOk x = true) (h2 : PyData.strOk y = true) : fNe (.str x) (.str y) k = k (.bl (!(x == y))) .p := propext ⟨fun h => h.2.2, fun h => ⟨okEq_s h1, okEq_s h2, h⟩⟩
@[simp] theorem v_addi : fAdd (.int i) (.int j) k = k (.int (i + j)) .p := rfl
@[simp] theorem v_subi : fSub (.int i) (.int j) k = k (.int (i - j)) .p := rfl
@[simp] theorem v_negi {k : D → Tag → Prop} : fNeg (.int i) k = k (.int (-i)) .p := rfl
@[simp] theorem v_lenl : fLen [.lst xs] k = k (.int xs.length) .p := rfl
@[simp] theorem v_lent : fLen [.tup xs] k = k (.int xs.length) .p := rfl
@[simp] theorem v_lens : fLen [.str x] k = (x.length ≤ sizeLine ∧ k (.int x.length) .p) := rfl
@[simp] theorem v_tupl : fTuple [.lst xs] k = k (.tup xs) .p := rfl
@[simp] theorem v_truth_b {b : Bool} {q : Bool → Prop} : truth (.bl b) q = q b := rfl
@[simp] theorem v_split {q : D → Tag → Prop} : mSplit (.str x) [.str y] q = ((y.length == 0) = false ∧ x.length + 2 ≤ sizeLine ∧ q (.lst ((Txt.split x y).map D.str)) .f) := rfl
@[simp] theorem v_nonN : isNonD .non = true := rfl
@[simp] theorem v_nonT : isNonD (.tup xs) = false := rfl
@[simp] theorem v_nonI : isNonD (.int i) = false := rfl
@[simp] theorem v_nonO {n : Nat} : isNonD (.obj n xs) = false := rfl
@[simp] theorem v_strD : isStrD (.str x) = True := rfl
@[simp] theorem v_mul (h : IntMulOk i j) : fMul (.int i) (.int j) k = k (.int (i * j)) .p := propext ⟨fun h => h.2, fun q => ⟨h, q⟩⟩
end
theorem v_slice1 {a : D} {r : List D} {k : D → Tag → Prop} : fSlice (.lst (a :: r)) (some 1) none k = k (.lst r) .f := by
  show k (.lst (cutD (a :: r) (some 1) none)) .f = _
  have e1 : HT.sIx (a :: r).length 0 (some 1) = 1 := by
    unfold HT.sIx
    simp
  have e2 : HT.sIx (a :: r).length (a :: r).length none = (a :: r).length := rfl
  have e : cutD (a :: r) (some 1) none = r := by
    unfold cutD
    rw [e1, e2]
    simp
  rw [e]
theorem bits_le {i : Int} {n : Nat} (h : i.natAbs < 2 ^ n) : Builtin.Int.intBits i ≤ n := by
  unfold Builtin.Int.intBits
  split
  · exact Nat.zero_le _
  · next hz =>
    have h0 : i.natAbs ≠ 0 := fun e => hz (by rw [Int.natAbs_eq_zero.mp e]; rfl)
    exact (Nat.log2_lt h0).mpr h
theorem mul_small {i j : Int} (h : i.natAbs < 2 ^ 1000) (h2 : j.natAbs < 2 ^ 1000) : IntMulOk i j := by
  unfold IntMulOk
  intro h3
  rw [Bool.and_eq_true] at h3
  have h4 := h3.2
  have a := bits_le h
  have b := bits_le h2
  unfold Builtin.Int.intTooBig at h4
  have h4 := of_decide_eq_true h4
  have c : (2000 : Int) ≤ bitsLine := by decide +kernel
  have : ((Builtin.Int.intBits i + Builtin.Int.intBits j : Nat) : Int) ≤ 2000 := by omega
  omega
theorem abs_small {i : Int} (h : 0 ≤ i) (h2 : i < 10 ^ 100) : i.natAbs < 2 ^ 1000 := by
  have h3 : i.natAbs < 10 ^ 100 := by omega
  exact Nat.lt_trans h3 (by decide +kernel)
theorem v_pow {i : Int} {n : Nat} {k : D → Tag → Prop} (h : n ≤ 1000000) (hi : i.natAbs < 2 ^ 64) : fPow (.int i) (.int (n : Int)) k = k (.int (i ^ n)) .p :=
  propext ⟨fun h => h.2.2.2, fun q => ⟨Int.natCast_nonneg n, by omega, hi, q⟩⟩
@[simp] theorem v_p31 {k : D → Tag → Prop} : fPow (.int 10) (.int 31) k = k (.int (10 ^ 31)) .p := v_pow (n := 31) (by decide) (by decide)
@[simp] theorem v_p30 {k : D → Tag → Prop} : fPow (.int 10) (.int 30) k = k (.int (10 ^ 30)) .p := v_pow (n := 30) (by decide) (by decide)
@[simp] theorem v_p18 {k : D → Tag → Prop} : fPow (.int 10) (.int 18) k = k (.int (10 ^ 18)) .p := v_pow (n := 18) (by decide) (by decide)
section
variable {x : XQ} {ρ : Env} {k : Kd} {ta : RE} {tr : RAt} {js : List Nat} {QL : List (D × Tag) → Env → Prop}
@[simp] theorem o_par : sPar js tr k ρ = tr k.ex ρ fun l ρ1 => l.length = js.length ∧ k.nx (setD js l ρ1) := rfl
end
end Dc
set_option maxHeartbeats 1000000
namespace Dc
open PySem L2 PyProof.Rows PySem.W
/-! ### python's own text of a thing is a text -/
def GS (x : Str) : Prop := ∀ c ∈ x.cps.toList, c < 0x110000
theorem gs_ok {x : Str} (h : GS x) : PyData.strOk x = true := by
  show x.cps.all (· < 0x110000) = true
  rw [← Array.all_toList]
  exact List.all_eq_true.mpr fun c hc => decide_eq_true (h c hc)
theorem gs_of {x : Str} (h : PyData.strOk x = true) : GS x := fun c hc => by
  have h : x.cps.all (· < 0x110000) = true := h
  rw [← Array.all_toList] at h
  exact of_decide_eq_true (List.all_eq_true.mp h c hc)
theorem char_lt (c : Char) : c.toNat < 0x110000 := by
  have := c.valid
  have h : c.toNat.isValidChar := this
  rcases h with h | ⟨_, h⟩
  · exact Nat.lt_trans h (by decide)
  · exact h
theorem gs_app {x y : Str} (a : GS x) (b : GS y) : GS (x ++ y) := fun c hc => by
  rw [show (x ++ y).cps.toList = x.cps.toList ++ y.cps.toList from TL.tl_append x y] at hc
  rcases List.mem_append.mp hc with hc | hc
  · exact a c hc
  · exact b c hc
theorem gs_str (s : String) : GS (Str.ofString s) := fun c hc => by
  rw [show (Str.ofString s).cps.toList = s.toList.map Char.toNat from TL.tl_ofString s] at hc
  obtain ⟨z, _, rfl⟩ := List.mem_map.mp hc
  exact char_lt z
theorem hex_ok {w c : Nat} : ∀ z ∈ (List.replicate w 48 ++ (Nat.toDigits 16 c).map Char.toNat), z < 0x110000 := fun z hz => by
  rcases List.mem_append.mp hz with hz | hz
  · rw [(List.mem_replicate.mp hz).2]; decide
  · obtain ⟨k, _, rfl⟩ := List.mem_map.mp hz
    exact char_lt k
theorem rch_ok {q c : Nat} (hc : c < 0x110000) : ∀ z ∈ Builtin.Str.reprChar q c, z < 0x110000 := by
  unfold Builtin.Str.reprChar
  dsimp only
  repeat' split
  all_goals intro z hz
  all_goals simp only [List.cons_append, List.nil_append, List.mem_cons, List.not_mem_nil, or_false] at hz
  · rcases hz with rfl | rfl
    · decide
    · exact hc
  · rcases hz with rfl | rfl <;> decide
  · rcases hz with rfl | rfl <;> decide
  · rcases hz with rfl | rfl <;> decide
  · subst hz; exact hc
  · rcases hz with rfl | rfl | hz
    · decide
    · decide
    · exact hex_ok z hz
  · rcases hz with rfl | rfl | hz
    · decide
    · decide
    · exact hex_ok z hz
  · rcases hz with rfl | rfl | hz
    · decide
    · decide
    · exact hex_ok z hz
theorem fold_ok (q : Nat) : ∀ (l : List Nat) (acc : Array Nat), (∀ c ∈ l, c < 0x110000) → (∀ c ∈ acc.toList, c < 0x110000) → ∀ c ∈ (l.foldl (fun out c => out ++ (Builtin.Str.reprChar q c).toArray) acc).toList, c < 0x110000
  | [], _, _, h => h
  | c :: r, acc, hl, h => by
    refine fold_ok q r _ (fun d hd => hl d (List.mem_cons_of_mem _ hd)) fun d hd => ?_
    rw [Array.toList_append] at hd
    rcases List.mem_append.mp hd with hd | hd
    · exact h d hd
    · exact rch_ok (hl c (List.mem_cons_self ..)) d (by simpa using hd)
theorem gs_repr {x : Str} (h : GS x) : GS (reprText x) := by
  have hq : reprQuote x < 0x110000 := by
    unfold reprQuote
    split <;> decide
  show ∀ c ∈ ((x.cps.foldl (fun out c => out ++ (Builtin.Str.reprChar (reprQuote x) c).toArray) #[reprQuote x]).push (reprQuote x)).toList, c < 0x110000
  intro c hc
  rw [Array.toList_push, ← Array.foldl_toList] at hc
  rcases List.mem_append.mp hc with hc | hc
  · exact fold_ok _ _ _ h (fun d hd => by have e : d = reprQuote x := (by simpa using hd); subst e; exact hq) c hc
  · rw [List.mem_singleton.mp hc]; exact hq
theorem gs_from : ∀ (ts : List Str) (k : Nat) (acc : Str), (∀ t ∈ ts, GS t) → GS acc → GS (textFrom k acc ts)
  | [], _, _, _, h => h
  | t :: ts, k, acc, hs, h => gs_from ts (k + 1) _ (fun u hu => hs u (List.mem_cons_of_mem _ hu)) (gs_app (gs_app h (gs_str _)) (hs t (List.mem_cons_self ..)))
theorem gs_list {ts : List Str} (h : ∀ t ∈ ts, GS t) : GS (listText ts) := gs_app (gs_from ts 0 _ h (gs_str "[")) (gs_str "]")
theorem gs_join : ∀ {ts : List Str}, (∀ t ∈ ts, GS t) → GS (Str.join ", " ts)
  | [], _ => fun c hc => by cases hc
  | [x], h => h x (List.mem_cons_self ..)
  | x :: y :: r, h => gs_app (gs_app (h x (List.mem_cons_self ..)) (gs_str ", ")) (gs_join fun t ht => h t (List.mem_cons_of_mem _ ht))
theorem gs_tuple {ts : List Str} (h : ∀ t ∈ ts, GS t) : GS (tupleText ts) := gs_app (gs_app (gs_str "(") (gs_join h)) (gs_str _)
mutual
theorem gs_sh : ∀ {d : D}, tame d = true → GS (shD d)
  | .non, _ => gs_str "None"
  | .bl true, _ => gs_str "True"
  | .bl false, _ => gs_str "False"
  | .int i, _ => gs_str (toString i)
  | .str x, h => gs_repr (gs_of h)
  | .tup xs, h => gs_tuple (gs_shs (show tames xs = true from h))
  | .lst xs, h => gs_list (gs_shs (show tames xs = true from h))
  | .dic _, h => Bool.noConfusion (show false = true from h)
  | .obj _ _, h => Bool.noConfusion (show false = true from h)
  | .ptr, h => Bool.noConfusion (show false = true from h)
  | .clo _ _, h => Bool.noConfusion (show false = true from h)
  | .exc _ _, h => Bool.noConfusion (show false = true from h)
  | .adr _, h => Bool.noConfusion (show false = true from h)
  | .scr _, h => Bool.noConfusion (show false = true from h)
  | .tpz _, h => Bool.noConfusion (show false = true from h)
theorem gs_shs : ∀ {ds : List D}, tames ds = true → ∀ t ∈ PyData.shownAll (pys ds), GS t
  | [], _ => fun t ht => by cases ht
  | x :: xs, h => by
    have h : (tame x && tames xs) = true := h
    rw [Bool.and_eq_true] at h
    intro t ht
    have ht : t ∈ (py x).shown :: PyData.shownAll (pys xs) := ht
    rcases List.mem_cons.mp ht with rfl | ht
    · exact gs_sh h.1
    · exact gs_shs h.2 t ht
end
theorem strOk_sh {d : D} (h : tame d = true) : PyData.strOk (shD d) = true := gs_ok (gs_sh h)
/-- repr(a) != repr(b), both the same -/
theorem v_same {d : D} {k : D → Tag → Prop} (h : tame d = true) : fNe (.str (shD d)) (.str (shD d)) k = k (.bl false) .p := by
  rw [v_nes (strOk_sh h) (strOk_sh h)]
  have : (shD d == shD d) = true := by rw [beq_iff_eq]
  rw [this]; rfl
theorem v_repr {d : D} {k : D → Tag → Prop} (h : tame d = true) (h2 : dep d ≤ 60) (h3 : shW d ≤ sizeLine) : fRepr [d] k = k (.str (shD d)) .p := propext ⟨fun q => q.2, fun q => ⟨okSh_of h h2 h3, q⟩⟩
theorem cut_mem {xs : List D} {lo hi : Option Int} {d : D} (h : d ∈ cutD xs lo hi) : d ∈ xs := List.mem_of_mem_drop (List.mem_of_mem_take h)
theorem mul_bits {i j : Int} (h : Builtin.Int.intBits i ≤ 1048576) (h2 : Builtin.Int.intBits j ≤ 1048576) : IntMulOk i j := by
  unfold IntMulOk
  intro h3
  rw [Bool.and_eq_true] at h3
  have h4 := h3.2
  unfold Builtin.Int.intTooBig at h4
  have h4 := of_decide_eq_true h4
  have c : (2097152 : Int) ≤ bitsLine := by decide +kernel
  have : ((Builtin.Int.intBits i + Builtin.Int.intBits j : Nat) : Int) ≤ 2097152 := by omega
  omega
theorem v_ixs {ns : List Int} {i n : Int} {k : D → Tag → Prop} (h : atI ns i = some n) : fIxA (.scr ns) (.int i) k = k (.int n) .p := ex_eq h
@[simp] theorem v_slices {ns : List Int} {lo hi : Option Int} {k : D → Tag → Prop} : fSlice (.scr ns) lo hi k = k (.lst (cutD (ns.map D.int) lo hi)) .f := rfl
@[simp] theorem v_inti {i : Int} {k : D → Tag → Prop} : fInt [.int i] k = k (.int i) .p := rfl
theorem v_modi {i j : Int} {k : D → Tag → Prop} (h : 0 < j) : fMod (.int i) (.int j) k = k (.int (i % j)) .p := propext ⟨fun q => q.2, fun q => ⟨h, q⟩⟩
@[simp] theorem v_lensc {ns : List Int} {k : D → Tag → Prop} : fLen [.scr ns] k = k (.int ns.length) .p := rfl
theorem mul_kind {p : Int × Int} (h : KindOk p) : IntMulOk p.1 p.2 := by
  obtain ⟨h1, h2, h3, h4⟩ := h
  exact mul_small (abs_small h1 (by omega)) (abs_small (by omega) (by omega))
end Dc
set_option maxHeartbeats 1000000
namespace Dc
open PySem L2 PyProof.Rows PySem.W
/-! sums by degree -/
def addT : List (Int × Int) → Int × Int → List (Int × Int)
  | [], p => [p]
  | q :: r, p => if q.1 = p.1 then (q.1, q.2 + p.2) :: r else q :: addT r p
def tabL (ps : List (Int × Int)) : List (Int × Int) := ps.foldl addT []
def lookT : List (Int × Int) → Int → Option Int
  | [], _ => none
  | q :: r, d => if q.1 = d then some q.2 else lookT r d
theorem lookT_cons (q : Int × Int) (r : List (Int × Int)) (d : Int) : lookT (q :: r) d = if q.1 = d then some q.2 else lookT r d := rfl
def tidyL (ps : List (Int × Int)) : List (Int × Int) := ((sortI ((tabL ps).map (·.1))).reverse.filter fun d => decide (0 < (lookT (tabL ps) d).getD 0)).map fun d => (d, (lookT (tabL ps) d).getD 0)
def dicT (t : List (Int × Int)) : List (L2.Key × D) := t.map fun p => (.inl p.1, .int p.2)
theorem valD_T : ∀ (t : List (Int × Int)) (d : Int), valD (dicT t) (.inl d) = (lookT t d).map D.int
  | [], _ => rfl
  | q :: r, d => by
    unfold valD dicT lookT
    rw [List.map_cons, List.find?_cons]
    by_cases h : q.1 = d
    · simp [h]
    · have : decide ((Sum.inl q.1 : L2.Key) = Sum.inl d) = false := decide_eq_false fun e => h (Sum.inl.inj e)
      simp only [this, h, if_false]
      exact valD_T r d
theorem anyT : ∀ (t : List (Int × Int)) (d : Int), ((dicT t).any fun kv => decide (kv.1 = .inl d)) = (lookT t d).isSome
  | [], _ => rfl
  | q :: r, d => by
    have ih := anyT r d
    unfold dicT at ih ⊢
    rw [List.map_cons, List.any_cons, ih]
    rw [lookT_cons]
    by_cases h : q.1 = d
    · simp [h]
    · have : decide ((Sum.inl q.1 : L2.Key) = Sum.inl d) = false := decide_eq_false fun e => h (Sum.inl.inj e)
      simp [this, h]
structure Keyed (t : List (Int × Int)) : Prop where
  nd : (t.map (·.1)).Nodup
theorem addT_keys (t : List (Int × Int)) (p : Int × Int) : (addT t p).map (·.1) = if (lookT t p.1).isSome = true then t.map (·.1) else t.map (·.1) ++ [p.1] := by
  induction t with
  | nil => rfl
  | cons q r ih =>
    unfold addT lookT
    by_cases h : q.1 = p.1
    · simp [h]
    · simp only [h, if_false, List.map_cons, ih]
      split <;> simp
theorem lookT_none {t : List (Int × Int)} {d : Int} : lookT t d = none ↔ d ∉ t.map (·.1) := by
  induction t with
  | nil => simp [lookT]
  | cons q r ih =>
    unfold lookT
    by_cases h : q.1 = d
    · simp [h]
    · have h' : ¬ d = q.1 := fun e => h e.symm
      simp [h, ih, h']
theorem addT_nodup {t : List (Int × Int)} (h : (t.map (·.1)).Nodup) (p : Int × Int) : ((addT t p).map (·.1)).Nodup := by
  rw [addT_keys]
  split
  · exact h
  · next hs =>
    have hn : lookT t p.1 = none := by
      cases e : lookT t p.1 with
      | none => rfl
      | some z => rw [e] at hs; exact (hs rfl).elim
    refine List.nodup_append.mpr ⟨h, by simp, fun a ha b hb e => ?_⟩
    rw [List.mem_singleton] at hb
    subst hb; subst e
    exact lookT_none.mp hn ha
theorem tabL_nodup (ps : List (Int × Int)) : ((tabL ps).map (·.1)).Nodup := by
  have go : ∀ (ps t : List (Int × Int)), (t.map (·.1)).Nodup → ((ps.foldl addT t).map (·.1)).Nodup := by
    intro ps
    induction ps with
    | nil => exact fun t h => h
    | cons p ps ih => exact fun t h => ih _ (addT_nodup h p)
  exact go ps [] List.nodup_nil
theorem addT_len (t : List (Int × Int)) (p : Int × Int) : (addT t p).length ≤ t.length + 1 := by
  induction t with
  | nil => exact Nat.le_refl _
  | cons q r ih =>
    unfold addT
    split
    · simp
    · simp only [List.length_cons]; omega
theorem lookT_some_mem {t : List (Int × Int)} {d c : Int} (h : lookT t d = some c) : (d, c) ∈ t := by
  induction t with
  | nil => cases h
  | cons q r ih =>
    unfold lookT at h
    by_cases e : q.1 = d
    · rw [if_pos e] at h
      cases h; subst e
      exact List.mem_cons_self ..
    · rw [if_neg e] at h
      exact List.mem_cons_of_mem _ (ih h)
theorem putT : ∀ {t : List (Int × Int)} (_ : (t.map (·.1)).Nodup) (p : Int × Int), putD (dicT t) (.inl p.1) (.int ((lookT t p.1).getD 0 + p.2)) = dicT (addT t p) := by
  intro t hn p
  unfold putD
  rw [anyT]
  cases e : lookT t p.1 with
  | none =>
    have hm := lookT_none.mp e
    have : addT t p = t ++ [p] := by
      clear e hn
      induction t with
      | nil => rfl
      | cons q r ih =>
        simp only [List.map_cons, List.mem_cons, not_or] at hm
        unfold addT
        rw [if_neg fun z => hm.1 z.symm, ih hm.2]; rfl
    rw [this]
    simp [dicT]
  | some c =>
    show (if true = true then _ else _) = _
    rw [if_pos rfl]
    show (dicT t).map _ = _
    simp only [Option.getD_some]
    induction t with
    | nil => cases e
    | cons q r ih =>
      unfold lookT at e
      unfold addT dicT
      by_cases h : q.1 = p.1
      · rw [if_pos h] at e ⊢
        cases e
        have hr : ∀ z ∈ r, z.1 ≠ p.1 := fun z hz ez => by
          rw [List.map_cons, List.nodup_cons] at hn
          exact hn.1 (by rw [h, ← ez]; exact List.mem_map_of_mem hz)
        simp only [List.map_cons, List.map_map, h, if_true]
        congr 1
        refine List.map_congr_left fun z hz => ?_
        have : ¬ ((Sum.inl z.1 : L2.Key) = Sum.inl p.1) := fun e => hr z hz (Sum.inl.inj e)
        simp [this]
      · rw [if_neg h] at e ⊢
        have : ¬ ((Sum.inl q.1 : L2.Key) = Sum.inl p.1) := fun e => h (Sum.inl.inj e)
        rw [List.map_cons, List.nodup_cons] at hn
        have ih := ih hn.2 e
        unfold dicT at ih
        simp only [List.map_cons, this, if_false]
        rw [ih]
/-! tables by degree, kept in order -/
def setT : List (Int × Int) → Int → Int → List (Int × Int)
  | [], d, v => [(d, v)]
  | q :: r, d, v => if q.1 = d then (q.1, v) :: r else q :: setT r d v
theorem setT_cons (q : Int × Int) (r : List (Int × Int)) (d v : Int) : setT (q :: r) d v = if q.1 = d then (q.1, v) :: r else q :: setT r d v := rfl
theorem setT_keys (t : List (Int × Int)) (d v : Int) : (setT t d v).map (·.1) = (addT t (d, v)).map (·.1) := by
  induction t with
  | nil => rfl
  | cons q r ih =>
    unfold setT addT
    by_cases h : q.1 = d
    · simp [h]
    · simp only [h, if_false, List.map_cons, ih]
theorem setT_nodup {t : List (Int × Int)} (h : (t.map (·.1)).Nodup) (d v : Int) : ((setT t d v).map (·.1)).Nodup := by
  rw [setT_keys]; exact addT_nodup h _
theorem setT_len (t : List (Int × Int)) (d v : Int) : (setT t d v).length ≤ t.length + 1 := by
  have := addT_len t (d, v)
  have e : ((setT t d v).map (·.1)).length = ((addT t (d, v)).map (·.1)).length := by rw [setT_keys]
  simp only [List.length_map] at e
  omega
theorem setT_ne (t : List (Int × Int)) (d v : Int) : setT t d v ≠ [] := by
  cases t with
  | nil => simp [setT]
  | cons q r =>
    rw [setT_cons]
    split <;> simp
theorem setT_all {P : Int × Int → Prop} {t : List (Int × Int)} {d v : Int} (h : ∀ p ∈ t, P p) (hp : P (d, v)) : ∀ p ∈ setT t d v, P p := by
  induction t with
  | nil =>
    intro p hm
    have hm : p ∈ [(d, v)] := hm
    rw [List.mem_singleton] at hm
    subst hm; exact hp
  | cons q r ih =>
    intro p hm
    rw [setT_cons] at hm
    by_cases e : q.1 = d
    · rw [if_pos e] at hm
      rcases List.mem_cons.mp hm with rfl | hm
      · rw [e]; exact hp
      · exact h p (List.mem_cons_of_mem _ hm)
    · rw [if_neg e] at hm
      rcases List.mem_cons.mp hm with rfl | hm
      · exact h _ (List.mem_cons_self ..)
      · exact ih (fun z hz => h z (List.mem_cons_of_mem _ hz)) p hm
theorem putS {t : List (Int × Int)} (hn : (t.map (·.1)).Nodup) (d v : Int) : putD (dicT t) (.inl d) (.int v) = dicT (setT t d v) := by
  unfold putD
  rw [anyT]
  cases e : lookT t d with
  | none =>
    have hm := lookT_none.mp e
    have : setT t d v = t ++ [(d, v)] := by
      clear e hn
      induction t with
      | nil => rfl
      | cons q r ih =>
        simp only [List.map_cons, List.mem_cons, not_or] at hm
        rw [setT_cons, if_neg fun z => hm.1 z.symm, ih hm.2]; rfl
    rw [this]
    simp [dicT]
  | some c =>
    show (if true = true then _ else _) = _
    rw [if_pos rfl]
    induction t with
    | nil => cases e
    | cons q r ih =>
      rw [lookT_cons] at e
      rw [setT_cons]
      unfold dicT
      by_cases h : q.1 = d
      · rw [if_pos h] at e ⊢
        have hr : ∀ z ∈ r, z.1 ≠ d := fun z hz ez => by
          rw [List.map_cons, List.nodup_cons] at hn
          exact hn.1 (by rw [h, ← ez]; exact List.mem_map_of_mem hz)
        simp only [List.map_cons, List.map_map, h, if_true]
        congr 1
        refine List.map_congr_left fun z hz => ?_
        have : ¬ ((Sum.inl z.1 : L2.Key) = Sum.inl d) := fun e => hr z hz (Sum.inl.inj e)
        simp [this]
      · rw [if_neg h] at e ⊢
        have : ¬ ((Sum.inl q.1 : L2.Key) = Sum.inl d) := fun e => h (Sum.inl.inj e)
        rw [List.map_cons, List.nodup_cons] at hn
        have ih := ih hn.2 e
        unfold dicT at ih
        simp only [List.map_cons, this, if_false]
        rw [ih]
theorem lookT_get {t : List (Int × Int)} (hn : (t.map (·.1)).Nodup) {p : Int × Int} (h : p ∈ t) : lookT t p.1 = some p.2 := by
  induction t with
  | nil => cases h
  | cons q r ih =>
    rw [lookT_cons]
    rw [List.map_cons, List.nodup_cons] at hn
    rcases List.mem_cons.mp h with rfl | h
    · rw [if_pos rfl]
    · rw [if_neg fun e => hn.1 (by rw [e]; exact List.mem_map_of_mem h)]
      exact ih hn.2 h
theorem tabL_same {ps : List (Int × Int)} (hn : (ps.map (·.1)).Nodup) : tabL ps = ps := by
  have go : ∀ (qs t : List (Int × Int)), ((t ++ qs).map (·.1)).Nodup → qs.foldl addT t = t ++ qs := by
    intro qs
    induction qs with
    | nil => intro t _; simp
    | cons p qs ih =>
      intro t h
      have hp : p.1 ∉ t.map (·.1) := fun hm => by
        rw [List.map_append, List.nodup_append] at h
        exact h.2.2 _ hm _ (by simp) rfl
      have e : addT t p = t ++ [p] := by
        clear h ih
        induction t with
        | nil => rfl
        | cons q r ih2 =>
          simp only [List.map_cons, List.mem_cons, not_or] at hp
          unfold addT
          rw [if_neg fun z => hp.1 z.symm, ih2 hp.2]; rfl
      rw [List.foldl_cons, e, ih _ (by simpa using h)]
      simp
  exact go ps [] (by simpa using hn)
theorem sortI_lt {l : List Int} (h : l.Nodup) : (sortI l).Pairwise (· < ·) := by
  have h1 := sortI_sorted l
  have h2 : (sortI l).Nodup := (sortI_perm l).nodup_iff.mpr h
  exact (h1.and h2).imp fun ⟨a, b⟩ => by omega
theorem good_tidy {ps : List (Int × Int)} (ok : ∀ p ∈ tabL ps, 0 ≤ p.1 ∧ p.1 ≤ 10 ^ 31 ∧ 0 ≤ p.2 ∧ p.2 ≤ 10 ^ 30) (some_ : ∃ p ∈ tabL ps, 0 < p.2) (len : (tabL ps).length ≤ 10) : GoodK (tidyL ps) := by
  have nd := tabL_nodup ps
  refine ⟨fun e => ?_, ?_, fun p hp => ?_, ?_⟩
  · obtain ⟨p, hp, h0⟩ := some_
    have hm : p.1 ∈ (sortI ((tabL ps).map (·.1))).reverse := List.mem_reverse.mpr ((sortI_perm _).mem_iff.mpr (List.mem_map_of_mem hp))
    have : p.1 ∈ (sortI ((tabL ps).map (·.1))).reverse.filter fun d => decide (0 < (lookT (tabL ps) d).getD 0) := List.mem_filter.mpr ⟨hm, by rw [lookT_get nd hp]; exact decide_eq_true h0⟩
    unfold tidyL at e
    rw [List.map_eq_nil_iff.mp e] at this
    cases this
  · unfold tidyL
    rw [List.length_map]
    refine Nat.le_trans (List.length_filter_le _ _) ?_
    rw [List.length_reverse, (sortI_perm _).length_eq, List.length_map]
    exact len
  · unfold tidyL at hp
    obtain ⟨d, hd, rfl⟩ := List.mem_map.mp hp
    obtain ⟨hm, hc⟩ := List.mem_filter.mp hd
    have hc := of_decide_eq_true hc
    cases e : lookT (tabL ps) d with
    | none => rw [e] at hc; exact absurd hc (by decide)
    | some c =>
      rw [e] at hc
      obtain ⟨a1, a2, a3, a4⟩ := ok _ (lookT_some_mem e)
      exact ⟨a1, a2, hc, a4⟩
  · unfold tidyL
    refine List.pairwise_map.mpr (List.Pairwise.filter _ ?_)
    rw [List.pairwise_reverse]
    exact sortI_lt nd
end Dc
set_option maxHeartbeats 1000000
namespace Dc
open PySem L2 PyProof.Rows PySem.W
/-! ### what a tidied row of pairs tells -/
def sumAt (ps : List (Int × Int)) (d : Int) : Int := ((ps.filter fun p => decide (p.1 = d)).map (·.2)).sum
theorem sumAt_nil (d : Int) : sumAt [] d = 0 := rfl
theorem sumAt_cons (p : Int × Int) (ps : List (Int × Int)) (d : Int) : sumAt (p :: ps) d = (if p.1 = d then p.2 else 0) + sumAt ps d := by
  unfold sumAt
  by_cases h : p.1 = d
  · simp [h]
  · simp [h]
theorem sumAt_append (ps qs : List (Int × Int)) (d : Int) : sumAt (ps ++ qs) d = sumAt ps d + sumAt qs d := by
  unfold sumAt
  rw [List.filter_append, List.map_append, List.sum_append]
theorem perm_sum {l m : List Int} (h : l.Perm m) : l.sum = m.sum := by
  induction h with
  | nil => rfl
  | cons x _ ih => simp only [List.sum_cons, ih]
  | swap x y l => simp only [List.sum_cons]; omega
  | trans _ _ a b => rw [a, b]
theorem sumAt_perm {ps qs : List (Int × Int)} (h : ps.Perm qs) (d : Int) : sumAt ps d = sumAt qs d := perm_sum ((h.filter _).map _)
theorem lookT_add (t : List (Int × Int)) (p : Int × Int) (d : Int) : (lookT (addT t p) d).getD 0 = (lookT t d).getD 0 + (if p.1 = d then p.2 else 0) := by
  induction t with
  | nil =>
    show (if p.1 = d then some p.2 else none).getD 0 = 0 + _
    split <;> simp
  | cons q r ih =>
    unfold addT
    by_cases h : q.1 = p.1
    · rw [if_pos h, lookT_cons, lookT_cons]
      by_cases e : q.1 = d
      · rw [if_pos e, if_pos e, if_pos (h ▸ e)]; rfl
      · rw [if_neg e, if_neg e, if_neg (h ▸ e)]; omega
    · rw [if_neg h, lookT_cons, lookT_cons]
      by_cases e : q.1 = d
      · have e2 : ¬ p.1 = d := fun z => h (e.trans z.symm)
        rw [if_pos e, if_pos e, if_neg e2]; simp
      · rw [if_neg e, if_neg e]; exact ih
theorem lookT_tab (ps : List (Int × Int)) (d : Int) : (lookT (tabL ps) d).getD 0 = sumAt ps d := by
  have go : ∀ (ps t : List (Int × Int)), (lookT (ps.foldl addT t) d).getD 0 = (lookT t d).getD 0 + sumAt ps d := by
    intro ps
    induction ps with
    | nil => intro t; rw [sumAt_nil]; simp
    | cons p ps ih =>
      intro t
      rw [List.foldl_cons, ih, lookT_add, sumAt_cons]; omega
  have := go ps []
  rw [show (lookT [] d).getD 0 = 0 from rfl] at this
  unfold tabL
  omega
theorem mem_addT {t : List (Int × Int)} {p : Int × Int} {d : Int} : d ∈ (addT t p).map (·.1) ↔ d ∈ t.map (·.1) ∨ d = p.1 := by
  rw [addT_keys]
  split
  · rename_i h
    refine ⟨.inl, fun z => z.elim id fun e => ?_⟩
    subst e
    refine Classical.byContradiction fun hn => ?_
    rw [lookT_none.mpr hn] at h
    cases h
  · simp [List.mem_append]
theorem mem_tab {ps : List (Int × Int)} {d : Int} : d ∈ (tabL ps).map (·.1) ↔ d ∈ ps.map (·.1) := by
  have go : ∀ (ps t : List (Int × Int)), d ∈ (ps.foldl addT t).map (·.1) ↔ d ∈ t.map (·.1) ∨ d ∈ ps.map (·.1) := by
    intro ps
    induction ps with
    | nil => intro t; simp
    | cons p ps ih =>
      intro t
      rw [List.foldl_cons, ih, mem_addT, List.map_cons, List.mem_cons, or_assoc]
  have := go ps []
  simpa [tabL] using this
theorem tab_at {ps : List (Int × Int)} {p : Int × Int} (h : p ∈ tabL ps) : p.2 = sumAt ps p.1 := by
  have := lookT_get (tabL_nodup ps) h
  rw [← lookT_tab, this]; rfl
theorem tab_has {ps : List (Int × Int)} {d : Int} (h : d ∈ ps.map (·.1)) : (d, sumAt ps d) ∈ tabL ps := by
  obtain ⟨p, hp, e⟩ := List.mem_map.mp (mem_tab.mpr h)
  have := tab_at hp
  obtain ⟨a, b⟩ := p
  subst e
  rw [show b = sumAt ps a from this] at hp
  exact hp
theorem sumAt_zero {ps : List (Int × Int)} {d : Int} (h : d ∉ ps.map (·.1)) : sumAt ps d = 0 := by
  rw [← lookT_tab, lookT_none.mpr fun z => h (mem_tab.mp z)]; rfl
theorem sum_tab (f : Int → Int) (ps : List (Int × Int)) : ((tabL ps).map fun p => f p.1 * p.2).sum = (ps.map fun p => f p.1 * p.2).sum := by
  have one : ∀ (t : List (Int × Int)) (p : Int × Int), ((addT t p).map fun p => f p.1 * p.2).sum = (t.map fun p => f p.1 * p.2).sum + f p.1 * p.2 := by
    intro t p
    induction t with
    | nil => simp [addT]
    | cons q r ih =>
      unfold addT
      split
      · next h =>
        simp only [List.map_cons, List.sum_cons, Int.mul_add, h]; omega
      · simp only [List.map_cons, List.sum_cons, ih]; omega
  have go : ∀ (ps t : List (Int × Int)), ((ps.foldl addT t).map fun p => f p.1 * p.2).sum = (t.map fun p => f p.1 * p.2).sum + (ps.map fun p => f p.1 * p.2).sum := by
    intro ps
    induction ps with
    | nil => intro t; simp
    | cons p ps ih =>
      intro t
      rw [List.foldl_cons, ih, one, List.map_cons, List.sum_cons]; omega
  have := go ps []
  simpa [tabL] using this
theorem tidyL_perm_tab (ps : List (Int × Int)) : (tidyL ps).Perm ((tabL ps).filter fun p => decide (0 < p.2)) := by
  have nd := tabL_nodup ps
  unfold tidyL
  have h1 : (sortI ((tabL ps).map (·.1))).reverse.Perm ((tabL ps).map (·.1)) := (List.reverse_perm _).trans (sortI_perm _)
  refine ((h1.filter _).map _).trans ?_
  rw [List.filter_map, List.map_map]
  have e : (tabL ps).filter ((fun d => decide (0 < (lookT (tabL ps) d).getD 0)) ∘ fun x => x.1) = (tabL ps).filter fun p => decide (0 < p.2) := by
    refine List.filter_congr fun p hp => ?_
    show decide (0 < (lookT (tabL ps) p.1).getD 0) = _
    rw [lookT_get nd hp]; rfl
  rw [e]
  have e2 : ((tabL ps).filter fun p => decide (0 < p.2)).map ((fun d => (d, (lookT (tabL ps) d).getD 0)) ∘ fun x => x.1) = (tabL ps).filter fun p => decide (0 < p.2) := by
    refine (List.map_congr_left fun p hp => ?_).trans (List.map_id _)
    show (p.1, (lookT (tabL ps) p.1).getD 0) = id p
    rw [lookT_get nd (List.mem_filter.mp hp).1]; rfl
  rw [e2]
theorem mem_tidy {ps : List (Int × Int)} {p : Int × Int} : p ∈ tidyL ps ↔ 0 < p.2 ∧ p.2 = sumAt ps p.1 := by
  rw [(tidyL_perm_tab ps).mem_iff, List.mem_filter]
  constructor
  · rintro ⟨h, h0⟩
    exact ⟨of_decide_eq_true h0, tab_at h⟩
  · rintro ⟨h0, e⟩
    refine ⟨?_, decide_eq_true h0⟩
    have hm : p.1 ∈ ps.map (·.1) := Classical.byContradiction fun z => by rw [sumAt_zero z] at e; omega
    have := tab_has hm
    rw [← e] at this
    exact this
theorem tidy_desc (ps : List (Int × Int)) : (tidyL ps).Pairwise fun p q => q.1 < p.1 := by
  unfold tidyL
  refine List.pairwise_map.mpr (List.Pairwise.filter _ ?_)
  rw [List.pairwise_reverse]
  exact sortI_lt (tabL_nodup ps)
theorem desc_unique : ∀ {l m : List (Int × Int)}, l.Pairwise (fun p q => q.1 < p.1) → m.Pairwise (fun p q => q.1 < p.1) → (∀ p, p ∈ l ↔ p ∈ m) → l = m
  | [], [], _, _, _ => rfl
  | [], q :: m, _, _, h => by have := (h q).mpr (by simp); cases this
  | p :: l, [], _, _, h => by have := (h p).mp (by simp); cases this
  | p :: l, q :: m, h1, h2, h => by
    rw [List.pairwise_cons] at h1 h2
    have e : p = q := by
      rcases List.mem_cons.mp ((h p).mp (by simp)) with e | hm
      · exact e
      · rcases List.mem_cons.mp ((h q).mpr (by simp)) with e | hl
        · exact e.symm
        · have a := h1.1 q hl
          have b := h2.1 p hm
          omega
    subst e
    rw [desc_unique h1.2 h2.2 fun z => ?_]
    constructor
    · intro hz
      rcases List.mem_cons.mp ((h z).mp (List.mem_cons_of_mem _ hz)) with e | hz'
      · subst e; have := h1.1 z hz; omega
      · exact hz'
    · intro hz
      rcases List.mem_cons.mp ((h z).mpr (List.mem_cons_of_mem _ hz)) with e | hz'
      · subst e; have := h2.1 z hz; omega
      · exact hz'
theorem tidy_congr {ps qs : List (Int × Int)} (h : ∀ d, sumAt ps d = sumAt qs d) : tidyL ps = tidyL qs :=
  desc_unique (tidy_desc ps) (tidy_desc qs) fun p => by rw [mem_tidy, mem_tidy, h]
theorem tidy_perm {ps qs : List (Int × Int)} (h : ps.Perm qs) : tidyL ps = tidyL qs := tidy_congr (sumAt_perm h)
theorem sumAt_desc : ∀ {l : List (Int × Int)}, l.Pairwise (fun p q => q.1 < p.1) → ∀ p ∈ l, sumAt l p.1 = p.2
  | q :: l, h, p, hp => by
    rw [List.pairwise_cons] at h
    rw [sumAt_cons]
    rcases List.mem_cons.mp hp with rfl | hp
    · rw [if_pos rfl, sumAt_zero, Int.add_zero]
      intro hm
      obtain ⟨z, hz, e⟩ := List.mem_map.mp hm
      have := h.1 z hz
      omega
    · have := h.1 p hp
      rw [if_neg (by omega), sumAt_desc h.2 p hp, Int.zero_add]
/-- a row that is right is its own tidied one -/
theorem tidy_self {l : List (Int × Int)} (h : l.Pairwise fun p q => q.1 < p.1) (h0 : ∀ p ∈ l, 0 < p.2) : tidyL l = l := desc_unique (tidy_desc l) h fun p => by
  rw [mem_tidy]
  constructor
  · rintro ⟨a, e⟩
    have hm : p.1 ∈ l.map (·.1) := Classical.byContradiction fun z => by rw [sumAt_zero z] at e; omega
    obtain ⟨q, hq, e2⟩ := List.mem_map.mp hm
    have := sumAt_desc h q hq
    have e3 : q = p := Prod.ext e2 (by rw [e, ← e2, this])
    rw [← e3]; exact hq
  · intro hp
    exact ⟨h0 p hp, (sumAt_desc h p hp).symm⟩
theorem sum_tidy (f : Int → Int) {ps : List (Int × Int)} (h : ∀ d, 0 ≤ sumAt ps d) : ((tidyL ps).map fun p => f p.1 * p.2).sum = (ps.map fun p => f p.1 * p.2).sum := by
  rw [perm_sum ((tidyL_perm_tab ps).map fun p => f p.1 * p.2), ← sum_tab f ps]
  have : ∀ p ∈ tabL ps, 0 ≤ p.2 := fun p hp => by rw [tab_at hp]; exact h _
  generalize tabL ps = t at this
  induction t with
  | nil => rfl
  | cons q r ih =>
    have ih := ih fun p hp => this p (List.mem_cons_of_mem _ hp)
    have hq := this q (by simp)
    by_cases h0 : 0 < q.2
    · rw [List.filter_cons_of_pos (p := fun p : Int × Int => decide (0 < p.2)) (by simpa using h0)]
      simp only [List.map_cons, List.sum_cons, ih]
    · have e : q.2 = 0 := by omega
      rw [List.filter_cons_of_neg (p := fun p : Int × Int => decide (0 < p.2)) (by simpa using h0)]
      simp only [List.map_cons, List.sum_cons, ih, e]; simp
theorem places_tidy {ps : List (Int × Int)} (h : ∀ d, 0 ≤ sumAt ps d) : placesK (tidyL ps) = (ps.map (·.2)).sum := by
  have := sum_tidy (fun _ => 1) h
  simpa [placesK] using this
theorem ends_tidy {ps : List (Int × Int)} (h : ∀ d, 0 ≤ sumAt ps d) : endsK (tidyL ps) = (ps.map fun p => p.1 * p.2).sum := sum_tidy (fun d => d) h
/-! ### rows of listed degrees -/
def onesP (l : List Int) : List (Int × Int) := l.map fun z => (z, 1)
structure GoodLot (l : List Int) : Prop where
  ne : l ≠ []
  len : l.length ≤ 1000
  rng : ∀ z ∈ l, 0 ≤ z ∧ z ≤ 10 ^ 31
  few : ∀ m : List Int, m.Nodup → (∀ z ∈ m, z ∈ l) → m.length ≤ 10
theorem nodup_len : ∀ {m l : List Int}, m.Nodup → (∀ z ∈ m, z ∈ l) → m.length ≤ l.length
  | [], _, _, _ => Nat.zero_le _
  | a :: m, l, h, hs => by
    rw [List.nodup_cons] at h
    have ha := hs a (by simp)
    have ih := nodup_len (l := l.erase a) h.2 fun z hz => (List.mem_erase_of_ne fun e => h.1 (by rw [← e]; exact hz)).mpr (hs z (List.mem_cons_of_mem _ hz))
    rw [List.length_erase_of_mem ha] at ih
    have := List.length_pos_of_mem ha
    simp only [List.length_cons]
    omega
theorem GoodLot.perm {l m : List Int} (h : GoodLot l) (p : m.Perm l) : GoodLot m :=
  ⟨fun e => h.ne (by subst e; exact List.nil_perm.mp p), by rw [p.length_eq]; exact h.len, fun z hz => h.rng z (p.mem_iff.mp hz), fun k nd hk => h.few k nd fun z hz => p.mem_iff.mp (hk z hz)⟩
theorem sumAt_ones (l : List Int) (d : Int) : 0 ≤ sumAt (onesP l) d ∧ sumAt (onesP l) d ≤ l.length ∧ (d ∈ l → 0 < sumAt (onesP l) d) := by
  induction l with
  | nil => exact ⟨Int.le_refl _, Int.le_refl _, fun h => by cases h⟩
  | cons a l ih =>
    obtain ⟨h1, h2, h3⟩ := ih
    rw [onesP, List.map_cons, sumAt_cons, ← onesP]
    simp only [List.length_cons]
    refine ⟨by split <;> omega, by split <;> omega, fun hm => ?_⟩
    rcases List.mem_cons.mp hm with e | hm
    · rw [if_pos e.symm]; omega
    · have := h3 hm
      split <;> omega
theorem onesP_fst (l : List Int) : (onesP l).map (·.1) = l := by
  unfold onesP
  rw [List.map_map]
  exact List.map_id' l
theorem tidy_ones {l : List Int} (h : GoodLot l) : GoodK (tidyL (onesP l)) := by
  refine good_tidy (fun p hp => ?_) ?_ ?_
  · have hm : p.1 ∈ l := by
      have := mem_tab.mp (List.mem_map_of_mem (f := fun p : Int × Int => p.1) hp)
      rwa [onesP_fst] at this
    have e := tab_at hp
    have b := sumAt_ones l p.1
    have r := h.rng _ hm
    have := h.len
    omega
  · obtain ⟨a, ha⟩ := List.exists_mem_of_ne_nil _ h.ne
    exact ⟨(a, sumAt (onesP l) a), tab_has (by rw [onesP_fst]; exact ha), (sumAt_ones l a).2.2 ha⟩
  · have := h.few _ (tabL_nodup (onesP l)) fun z hz => by
      have := mem_tab.mp hz
      rwa [onesP_fst] at this
    rwa [List.length_map] at this
theorem ones_perm {l m : List Int} (h : m.Perm l) : tidyL (onesP m) = tidyL (onesP l) := tidy_perm (h.map _)
theorem ones_places (l : List Int) : placesK (tidyL (onesP l)) = (l.length : Nat) := by
  rw [places_tidy fun d => (sumAt_ones l d).1]
  induction l with
  | nil => rfl
  | cons a l ih => simp only [onesP, List.map_cons, List.sum_cons, List.length_cons] at ih ⊢; omega
theorem ones_ends (l : List Int) : endsK (tidyL (onesP l)) = l.sum := by
  rw [ends_tidy fun d => (sumAt_ones l d).1]
  induction l with
  | nil => rfl
  | cons a l ih => simp only [onesP, List.map_cons, List.sum_cons] at ih ⊢; omega
/-! ### comprehensions whose things are drawn -/
theorem lcL_each {α : Type} {own : List Nat} {ρ : Env} {g : RG} {te : RE} {k : List D → Prop} (h : α → D) (P : D → Prop) : ∀ {l : List α} {acc : List D}, (∀ a ∈ l, ∀ R : D → Prop, (∀ e, P e → R e) → g (h a) ρ fun ρ1 => te noX ρ1 fun e ge ρ3 => wipeE (leak e ge ρ3) own = ρ ∧ R e) → (∀ ds, ds.length = l.length → (∀ d ∈ ds, P d) → k (acc ++ ds)) → lcL own ρ g dYes te (l.map h) acc k
  | [], acc, _, hk => by
    show k acc
    simpa using hk [] rfl (by simp)
  | a :: l, acc, hs, hk => by
    show g (h a) ρ fun ρ1 => te noX ρ1 fun e ge ρ3 => wipeE (leak e ge ρ3) own = ρ ∧ lcL own ρ g dYes te (l.map h) (acc ++ [e]) k
    refine hs a (by simp) _ fun e pe => lcL_each h P (fun d hd => hs d (List.mem_cons_of_mem _ hd)) fun ds hl hp => ?_
    have := hk (e :: ds) (by simp [hl]) fun d hd => by
      rcases List.mem_cons.mp hd with rfl | hd
      · exact pe
      · exact hp d hd
    simpa using this
theorem ints_of {p : Int → Prop} : ∀ {ds : List D}, (∀ d ∈ ds, ∃ z, d = .int z ∧ p z) → ∃ ns : List Int, ds = ns.map D.int ∧ ∀ z ∈ ns, p z
  | [], _ => ⟨[], rfl, by simp⟩
  | d :: ds, h => by
    obtain ⟨z, rfl, hz⟩ := h d (by simp)
    obtain ⟨ns, rfl, hn⟩ := ints_of (ds := ds) (p := p) fun e he => h e (List.mem_cons_of_mem _ he)
    exact ⟨z :: ns, rfl, fun y hy => by
      rcases List.mem_cons.mp hy with rfl | hy
      · exact hz
      · exact hn y hy⟩
theorem cutD_to {xs : List D} {i : Int} (h : 0 ≤ i) : cutD xs none (some i) = xs.take i.toNat := by
  obtain ⟨n, rfl⟩ := Int.eq_ofNat_of_zero_le h
  unfold cutD
  rw [HT.sIx_none, HT.sIx_nat, Int.toNat_natCast, List.drop_zero, Nat.sub_zero]
  by_cases hl : n ≤ xs.length
  · rw [Nat.min_eq_left hl]
  · rw [Nat.min_eq_right (by omega), List.take_of_length_le (Nat.le_refl _), List.take_of_length_le (by omega)]
theorem cutD_from {xs : List D} {i : Int} (h : 0 ≤ i) : cutD xs (some i) none = xs.drop i.toNat := by
  obtain ⟨n, rfl⟩ := Int.eq_ofNat_of_zero_le h
  unfold cutD
  rw [HT.sIx_none, HT.sIx_nat, Int.toNat_natCast]
  by_cases hl : n ≤ xs.length
  · rw [Nat.min_eq_left hl, List.take_of_length_le (by rw [List.length_drop]; omega)]
  · rw [Nat.min_eq_right (by omega), List.drop_eq_nil_of_le (Nat.le_refl _), List.drop_eq_nil_of_le (by omega)]; simp
@[simp] theorem v_slicel {xs : List D} {lo hi : Option Int} {k : D → Tag → Prop} : fSlice (.lst xs) lo hi k = k (.lst (cutD xs lo hi)) .f := rfl
@[simp] theorem v_slicet {xs : List D} {lo hi : Option Int} {k : D → Tag → Prop} : fSlice (.tup xs) lo hi k = k (.tup (cutD xs lo hi)) .p := rfl
theorem flats_ints : ∀ m : List Int, flats (m.map D.int) = true
  | [] => rfl
  | _ :: m => flats_ints m
theorem lay_ints : ∀ m : List Int, PyData.canLayAll0 (pys (m.map D.int)) = true
  | [] => rfl
  | _ :: m => lay_ints m
theorem dep_ints (m : List Int) : deps (m.map D.int) = 0 := Nat.le_zero.mp (deps_all fun d hd => by
  obtain ⟨z, _, rfl⟩ := List.mem_map.mp hd
  exact Nat.le_refl _)
theorem okEq_ints (m : List Int) : okEq (.lst (m.map D.int)) := by
  refine ⟨flats_ints m, ?_⟩
  unfold SeqAt.shaped
  have h1 : (py (.lst (m.map D.int))).canLay0 = true := lay_ints m
  have h2 : (py (.lst (m.map D.int))).depth ≤ 60 := Nat.le_trans (dep_ok _) (by show deps (m.map D.int) + 1 ≤ 60; rw [dep_ints]; decide)
  rw [h1, decide_eq_true (Nat.le_trans h2 (by decide))]; rfl
def toI : D → Int
  | .int i => i
  | _ => 0
theorem perm_ints {ys : List D} {ns : List Int} (h : ys.Perm (ns.map D.int)) : ∃ ms : List Int, ys = ms.map D.int ∧ ms.Perm ns := by
  refine ⟨ys.map toI, ?_, ?_⟩
  · rw [List.map_map]
    refine ((List.map_congr_left fun d hd => ?_).trans (List.map_id _)).symm
    obtain ⟨z, _, rfl⟩ := List.mem_map.mp (h.mem_iff.mp hd)
    rfl
  · have := h.map toI
    rw [List.map_map] at this
    have e : ns.map (toI ∘ D.int) = ns := (List.map_congr_left fun z _ => rfl).trans (List.map_id _)
    rwa [e] at this
@[simp] theorem v_p39 {k : D → Tag → Prop} : fPow (.int 10) (.int 39) k = k (.int (10 ^ 39)) .p := v_pow (n := 39) (by decide) (by decide)
/-! ### how many places have a degree -/
def cntK (l : List (Int × Int)) : D → Int
  | .int i => sumAt l i
  | _ => 0
theorem sumAt_good {l : List (Int × Int)} (h : GoodK l) (d : Int) : 0 ≤ sumAt l d ∧ sumAt l d ≤ 10 ^ 30 := by
  by_cases hm : d ∈ l.map (·.1)
  · obtain ⟨p, hp, rfl⟩ := List.mem_map.mp hm
    rw [sumAt_desc h.desc p hp]
    have := h.ok p hp
    exact ⟨by have := this.2.2.1; omega, this.2.2.2⟩
  · rw [sumAt_zero hm]; decide
theorem cntK_good {l : List (Int × Int)} (h : GoodK l) (d : D) : 0 ≤ cntK l d ∧ cntK l d ≤ 10 ^ 30 := by
  cases d <;> first | exact sumAt_good h _ | (exact ⟨Int.le_refl _, (by decide : (0 : Int) ≤ 10 ^ 30)⟩)
/-! ### statement by statement -/
theorem seq_bar {a b : RS} {k : Kd} {ρ : Env} (h : ∀ K : Env → Prop, (∀ ρ', b k ρ' → K ρ') → a { k with nx := K } ρ) : sSeq a b k ρ := h (b k) fun _ h => h
end Dc
set_option maxHeartbeats 1000000
namespace Dc
open PySem L2 PyProof.Rows PySem.W
/-! ### ties given and taken -/
def tieM (a b s : Int) : List (Int × Int) := [(a, -1), (b, -1), (a + s, 1), (b + s, 1)]
def movL (l : List (Int × Int)) (a b s : Int) : List (Int × Int) := tidyL (l ++ tieM a b s)
theorem sumAt_tieM (a b s d : Int) : sumAt (tieM a b s) d = (if a = d then -1 else 0) + (if b = d then -1 else 0) + (if a + s = d then 1 else 0) + (if b + s = d then 1 else 0) := by
  unfold tieM
  rw [sumAt_cons, sumAt_cons, sumAt_cons, sumAt_cons, sumAt_nil]; omega
/-- one place of a, one of b, two if they are equal -/
def Has (l : List (Int × Int)) (a b : Int) : Prop := 0 < sumAt l a ∧ 0 < sumAt l b ∧ (a = b → 2 ≤ sumAt l a)
theorem mov_nn {l : List (Int × Int)} (hl : GoodK l) {a b : Int} (h : Has l a b) (s : Int) (d : Int) : 0 ≤ sumAt (l ++ tieM a b s) d := by
  rw [sumAt_append, sumAt_tieM]
  obtain ⟨h1, h2, h3⟩ := h
  have h0 := (sumAt_good hl d).1
  by_cases e1 : a = d
  · by_cases e2 : b = d
    · have := h3 (e1.trans e2.symm)
      rw [e1] at this
      rw [if_pos e1, if_pos e2]
      split <;> split <;> omega
    · rw [e1] at h1
      rw [if_pos e1, if_neg e2]
      split <;> split <;> omega
  · by_cases e2 : b = d
    · rw [e2] at h2
      rw [if_neg e1, if_pos e2]
      split <;> split <;> omega
    · rw [if_neg e1, if_neg e2]
      split <;> split <;> omega
theorem sumAt_tidy {ps : List (Int × Int)} (h : ∀ d, 0 ≤ sumAt ps d) (d : Int) : sumAt (tidyL ps) d = sumAt ps d := by
  by_cases h0 : sumAt ps d = 0
  · rw [h0]
    refine sumAt_zero fun hm => ?_
    obtain ⟨p, hp, rfl⟩ := List.mem_map.mp hm
    have := mem_tidy.mp hp
    omega
  · have hm : (d, sumAt ps d) ∈ tidyL ps := mem_tidy.mpr ⟨by have := h d; show 0 < sumAt ps d; omega, rfl⟩
    exact sumAt_desc (tidy_desc ps) _ hm
theorem sumAt_mov {l : List (Int × Int)} (hl : GoodK l) {a b : Int} (h : Has l a b) (s : Int) (d : Int) : sumAt (movL l a b s) d = sumAt l d + sumAt (tieM a b s) d := by
  rw [movL, sumAt_tidy (mov_nn hl h s), sumAt_append]
/-- good rows are told by their sums -/
theorem good_ext {l m : List (Int × Int)} (hl : GoodK l) (hm : GoodK m) (h : ∀ d, sumAt l d = sumAt m d) : l = m := by
  have e1 := tidy_self hl.desc fun p hp => by have := (hl.ok p hp).2.2.1; omega
  have e2 := tidy_self hm.desc fun p hp => by have := (hm.ok p hp).2.2.1; omega
  rw [← e1, ← e2]
  exact tidy_congr h
theorem mov_swap (l : List (Int × Int)) (a b s : Int) : movL l a b s = movL l b a s := tidy_congr fun d => by
  rw [sumAt_append, sumAt_append, sumAt_tieM, sumAt_tieM]; omega
theorem has_mov {l : List (Int × Int)} (hl : GoodK l) {a b s : Int} (h : Has l a b) (hs : s = 1 ∨ s = -1) : Has (movL l a b s) (a + s) (b + s) := by
  have n : ∀ d, 0 ≤ sumAt l d := fun d => (sumAt_good hl d).1
  have k := mov_nn hl h s
  unfold Has at h ⊢
  rw [sumAt_mov hl h, sumAt_mov hl h, sumAt_tieM, sumAt_tieM]
  obtain ⟨h1, h2, h3⟩ := h
  have na := n (a + s)
  have nb := n (b + s)
  have e1 : ¬ a = a + s := by rcases hs with rfl | rfl <;> omega
  have e2 : ¬ b = b + s := by rcases hs with rfl | rfl <;> omega
  rw [if_neg e1, if_neg e2, if_pos rfl, if_pos rfl]
  refine ⟨?_, ?_, fun e => ?_⟩
  · by_cases c1 : b = a + s
    · rw [if_pos c1, ← c1]
      have c2 : ¬ b + s = b := by omega
      rw [if_neg c2]
      omega
    · rw [if_neg c1]
      split <;> omega
  · by_cases c1 : a = b + s
    · rw [if_pos c1, ← c1]
      have c2 : ¬ a + s = a := by omega
      rw [if_neg c2]
      omega
    · rw [if_neg c1]
      split <;> omega
  · have e : a = b := by omega
    subst e
    rw [if_neg e1, if_pos rfl]
    omega
theorem mov_back {l : List (Int × Int)} (hl : GoodK l) {a b s : Int} (h : Has l a b) (hm : GoodK (movL l a b s)) : movL (movL l a b s) (a + s) (b + s) (-s) = l := by
  have e1 := tidy_self hl.desc fun p hp => by have := (hl.ok p hp).2.2.1; omega
  refine (tidy_congr fun d => ?_).trans e1
  rw [sumAt_append, sumAt_mov hl h, sumAt_tieM, sumAt_tieM]
  have x1 : a + s + -s = a := by omega
  have x2 : b + s + -s = b := by omega
  rw [x1, x2]
  split <;> split <;> split <;> split <;> omega
/-! ### the opposite row -/
def turnL (l : List (Int × Int)) (t : Int) : List (Int × Int) := l.reverse.map fun p => (t - p.1, p.2)
theorem sumAt_turn (l : List (Int × Int)) (t d : Int) : sumAt (turnL l t) d = sumAt l (t - d) := by
  have h1 : ∀ m : List (Int × Int), sumAt (m.map fun p => (t - p.1, p.2)) d = sumAt m (t - d) := by
    intro m
    induction m with
    | nil => rfl
    | cons p m ih =>
      rw [List.map_cons, sumAt_cons, sumAt_cons, ih]
      by_cases c : t - p.1 = d
      · rw [if_pos c, if_pos (by omega)]
      · rw [if_neg c, if_neg (by omega)]
  unfold turnL
  rw [h1]
  exact sumAt_perm (List.reverse_perm _) _
theorem top_le {l : List (Int × Int)} (hl : GoodK l) : 0 ≤ placesK l - 1 ∧ placesK l - 1 ≤ 10 ^ 31 := by
  have hz : ∀ z ∈ l.map (fun p : Int × Int => p.2), 1 ≤ z ∧ z ≤ 10 ^ 30 := fun z hz => by
    obtain ⟨p, hp, rfl⟩ := List.mem_map.mp hz
    have := hl.ok p hp
    exact ⟨this.2.2.1, this.2.2.2⟩
  have go : ∀ m : List Int, (∀ z ∈ m, 1 ≤ z ∧ z ≤ 10 ^ 30) → (m.length : Int) ≤ m.sum ∧ m.sum ≤ m.length * 10 ^ 30 := by
    intro m
    induction m with
    | nil => intro _; simp
    | cons a m ih =>
      intro h
      have h1 := h a (by simp)
      have h2 := ih fun z hz => h z (List.mem_cons_of_mem _ hz)
      simp only [List.length_cons, List.sum_cons]
      omega
  have := go _ hz
  rw [List.length_map] at this
  have h1 := hl.len
  have h2 : 1 ≤ l.length := List.length_pos_iff.mpr hl.ne
  unfold placesK
  omega
theorem turn_good {l : List (Int × Int)} (hl : GoodK l) {t : Int} (h : ∀ p ∈ l, p.1 ≤ t) (ht : t ≤ 10 ^ 31) : GoodK (turnL l t) := by
  refine ⟨fun e => ?_, ?_, fun p hp => ?_, ?_⟩
  · have := congrArg List.length e
    simp only [turnL, List.length_map, List.length_reverse, List.length_nil] at this
    exact hl.ne (List.eq_nil_of_length_eq_zero this)
  · simp only [turnL, List.length_map, List.length_reverse]; exact hl.len
  · obtain ⟨q, hq, rfl⟩ := List.mem_map.mp hp
    have hq := List.mem_reverse.mp hq
    have k := hl.ok q hq
    have := h q hq
    exact ⟨by show 0 ≤ t - q.1; omega, by show t - q.1 ≤ 10 ^ 31; have := k.1; omega, k.2.2.1, k.2.2.2⟩
  · unfold turnL
    refine List.pairwise_map.mpr ?_
    rw [List.pairwise_reverse]
    exact hl.desc.imp fun {p q} h => by show t - p.1 < t - q.1; omega
theorem head_top {l : List (Int × Int)} (hl : GoodK l) {p0 : Int × Int} {r : List (Int × Int)} (e : l = p0 :: r) : ∀ p ∈ l, p.1 ≤ p0.1 := fun p hp => by
  have := hl.desc
  rw [e] at hp this
  rw [List.pairwise_cons] at this
  rcases List.mem_cons.mp hp with rfl | hp
  · exact Int.le_refl _
  · have := this.1 p hp; omega
theorem mov_places {l : List (Int × Int)} (hl : GoodK l) {a b : Int} (h : Has l a b) (s : Int) : placesK (movL l a b s) = placesK l := by
  rw [movL, places_tidy (mov_nn hl h s)]
  simp only [tieM, List.map_append, List.map_cons, List.map_nil, List.sum_append, List.sum_cons, List.sum_nil, placesK]
  omega
theorem mov_ends {l : List (Int × Int)} (hl : GoodK l) {a b : Int} (h : Has l a b) (s : Int) : endsK (movL l a b s) = endsK l + 2 * s := by
  rw [movL, ends_tidy (mov_nn hl h s)]
  simp only [tieM, List.map_append, List.map_cons, List.map_nil, List.sum_append, List.sum_cons, List.sum_nil, endsK]
  omega
/-- the highest degree after a tie more -/
theorem mov_top {l : List (Int × Int)} (hl : GoodK l) {a b s : Int} (h : Has l a b) {t : Int} (ht : ∀ p ∈ l, p.1 ≤ t) (ha : a + s ≤ t) (hb : b + s ≤ t) : ∀ p ∈ movL l a b s, p.1 ≤ t := fun p hp => by
  have := mem_tidy.mp hp
  by_cases c : p.1 ≤ t
  · exact c
  · exfalso
    have z : sumAt l p.1 = 0 := sumAt_zero fun hm => by
      obtain ⟨q, hq, e⟩ := List.mem_map.mp hm
      have := ht q hq
      omega
    rw [sumAt_append, z, sumAt_tieM, if_neg (c := a + s = p.1) (by omega), if_neg (c := b + s = p.1) (by omega)] at this
    have e2 : p.2 = sumAt (l ++ tieM a b s) p.1 := (mem_tidy.mp hp).2
    have e3 : p.2 = 0 + ((if a = p.1 then -1 else 0) + (if b = p.1 then -1 else 0) + 0 + 0) := this.2
    have e4 := this.1
    split at e3 <;> split at e3 <;> omega
theorem mov_turn {l : List (Int × Int)} (hl : GoodK l) {a b s t : Int} (h : Has l a b) (hg : GoodK (movL l a b s)) (ht : ∀ p ∈ l, p.1 ≤ t) (h31 : t ≤ 10 ^ 31) (h1 : ∀ p ∈ movL l a b s, p.1 ≤ t) : turnL (movL l a b s) t = movL (turnL l t) (t - a) (t - b) (-s) := by
  have g1 := turn_good hg h1 h31
  have e1 := tidy_self g1.desc fun p hp => by have := (g1.ok p hp).2.2.1; omega
  rw [← e1]
  refine tidy_congr fun d => ?_
  rw [sumAt_turn, sumAt_mov hl h, sumAt_append, sumAt_turn, sumAt_tieM, sumAt_tieM]
  have c1 : (a = t - d) = (t - a = d) := propext (by omega)
  have c2 : (b = t - d) = (t - b = d) := propext (by omega)
  have c3 : (a + s = t - d) = (t - a + -s = d) := propext (by omega)
  have c4 : (b + s = t - d) = (t - b + -s = d) := propext (by omega)
  simp only [c1, c2, c3, c4]
theorem has_turn {l : List (Int × Int)} {a b t : Int} (h : Has l a b) : Has (turnL l t) (t - a) (t - b) := by
  unfold Has at h ⊢
  rw [sumAt_turn, sumAt_turn]
  have e1 : t - (t - a) = a := by omega
  have e2 : t - (t - b) = b := by omega
  rw [e1, e2]
  exact ⟨h.1, h.2.1, fun e => h.2.2 (by omega)⟩
theorem turn_places (l : List (Int × Int)) (t : Int) : placesK (turnL l t) = placesK l := by
  unfold placesK turnL
  rw [List.map_map]
  exact perm_sum ((List.reverse_perm l).map _)
theorem has_of {l : List (Int × Int)} (hl : GoodK l) {p q : Int × Int} (hp : p ∈ l) (hq : q ∈ l) (h : p.1 = q.1 → sumAt l p.1 ≠ 1) : Has l p.1 q.1 := by
  have e1 := sumAt_desc hl.desc p hp
  have e2 := sumAt_desc hl.desc q hq
  have k1 := (hl.ok p hp).2.2.1
  have k2 := (hl.ok q hq).2.2.1
  exact ⟨by omega, by omega, fun e => by have := h e; omega⟩
/-! ### loops by place -/
theorem loop_ix {g : RG} {tb : RS} {k : Kd} (I : Nat → Env → Prop) {ds : List D} {ρ : Env} (h : I 0 ρ) (hs : ∀ (i : Nat) (d : D), ds[i]? = some d → ∀ (ρ : Env) (K : Env → Prop), I i ρ → (∀ ρ', I (i + 1) ρ' → K ρ') → g d ρ fun ρ1 => tb { k with nx := K, ct := K, bk := k.nx } ρ1) (hk : ∀ ρ, I ds.length ρ → k.nx ρ) : dLoop g tb k ds ρ := by
  have go : ∀ (suf pre : List D) (ρ : Env), ds = pre ++ suf → I pre.length ρ → dLoop g tb k suf ρ := by
    intro suf
    induction suf with
    | nil =>
      intro pre ρ e h
      rw [List.append_nil] at e
      subst e
      exact hk ρ h
    | cons d suf ih =>
      intro pre ρ e h
      show g d ρ fun ρ1 => tb { k with nx := dLoop g tb k suf, ct := dLoop g tb k suf, bk := k.nx } ρ1
      refine hs pre.length d (by rw [e, List.getElem?_append_right (Nat.le_refl _), Nat.sub_self]; rfl) ρ _ h fun ρ' h' => ih (pre ++ [d]) ρ' (by rw [e]; simp) (by rw [List.length_append]; exact h')
  exact go ds [] ρ rfl h
theorem flats_pairs : ∀ m : List (Int × Int), flats (m.map pD) = true
  | [] => rfl
  | _ :: m => flats_pairs m
theorem lay_pairs : ∀ m : List (Int × Int), PyData.canLayAll0 (pys (m.map pD)) = true
  | [] => rfl
  | _ :: m => lay_pairs m
theorem okEq_pairs (m : List (Int × Int)) : okEq (kD m) := by
  refine ⟨flats_pairs m, ?_⟩
  unfold SeqAt.shaped
  have h1 : (py (kD m)).canLay0 = true := lay_pairs m
  have h2 : (py (kD m)).depth ≤ 60 := Nat.le_trans (dep_ok _) (Nat.le_trans (dep_kD m) (by decide))
  rw [h1, decide_eq_true (Nat.le_trans h2 (by decide))]; rfl
theorem ups_at {n i : Nat} {d : D} (h : (ups 0 n)[i]? = some d) : i < n ∧ d = .int (i : Nat) := by
  unfold ups at h
  rw [List.getElem?_map] at h
  by_cases c : i < n
  · rw [List.getElem?_range c] at h
    simp only [Option.map_some, Option.some.injEq] at h
    exact ⟨c, by rw [← h, Int.zero_add]⟩
  · rw [List.getElem?_eq_none (by rw [List.length_range]; omega)] at h
    cases h
theorem ups_len (n : Nat) : (ups 0 n).length = n := by simp [ups]
theorem adj_desc {m : List (Int × Int)} (h : ∀ (j : Nat) (p q : Int × Int), m[j]? = some p → m[j + 1]? = some q → q.1 < p.1) : m.Pairwise fun p q => q.1 < p.1 := by
  induction m with
  | nil => exact List.Pairwise.nil
  | cons a m ih =>
    have ih := ih fun j p q h1 h2 => h (j + 1) p q (by simpa using h1) (by simpa using h2)
    refine List.pairwise_cons.mpr ⟨fun q hq => ?_, ih⟩
    cases m with
    | nil => cases hq
    | cons b m =>
      have hb : b.1 < a.1 := h 0 a b rfl rfl
      rcases List.mem_cons.mp hq with rfl | hq
      · exact hb
      · have := (List.pairwise_cons.mp ih).1 q hq
        omega
theorem desc_adj {m : List (Int × Int)} (h : m.Pairwise fun p q => q.1 < p.1) {j : Nat} {p q : Int × Int} (h1 : m[j]? = some p) (h2 : m[j + 1]? = some q) : q.1 < p.1 := by
  obtain ⟨l1, rfl⟩ := List.getElem?_eq_some_iff.mp h1
  obtain ⟨l2, rfl⟩ := List.getElem?_eq_some_iff.mp h2
  exact List.pairwise_iff_getElem.mp h j (j + 1) l1 l2 (by omega)
theorem tidy_len (ps : List (Int × Int)) : (tidyL ps).length ≤ ps.length := by
  rw [(tidyL_perm_tab ps).length_eq]
  refine Nat.le_trans (List.length_filter_le _ _) ?_
  have len : ∀ (qs t : List (Int × Int)), (qs.foldl addT t).length ≤ t.length + qs.length := by
    intro qs
    induction qs with
    | nil => exact fun t => Nat.le_refl _
    | cons p qs ih =>
      intro t
      have := ih (addT t p)
      have := addT_len t p
      simp only [List.foldl_cons, List.length_cons]
      omega
  have := len ps []
  unfold tabL
  simpa using this
theorem deg_le {l : List (Int × Int)} (hl : GoodK l) {a : Int} (h : 0 < sumAt l a) : 0 ≤ a ∧ a ≤ 10 ^ 31 := by
  have hm : a ∈ l.map (·.1) := Classical.byContradiction fun z => by rw [sumAt_zero z] at h; omega
  obtain ⟨p, hp, rfl⟩ := List.mem_map.mp hm
  exact ⟨(hl.ok p hp).1, (hl.ok p hp).2.1⟩
theorem v_mapp (l : List (Int × Int)) (a b s : Int) : l.map pD ++ [.tup [.int a, .int (-1)], .tup [.int b, .int (-1)], .tup [.int (a + s), .int 1], .tup [.int (b + s), .int 1]] = (l ++ tieM a b s).map pD := by
  rw [List.map_append]; rfl
end Dc
set_option maxHeartbeats 1000000
namespace Dc
open PySem L2 PyProof.Rows PySem.W
/-! ### texts tell rows -/
theorem numS_inj {i j : Int} (h1 : 0 ≤ i) (h2 : 0 ≤ j) (h : numS i = numS j) : i = j := by
  have := TL.numL_inj (SX.S_inj h)
  omega
theorem lineS_inj {p q : Int × Int} (h1 : KindOk p) (h2 : KindOk q) (h : lineS p = lineS q) : p = q := by
  have e := split_line p
  rw [h, split_line q] at e
  simp only [List.cons.injEq, and_true, true_and] at e
  obtain ⟨a1, a2, a3, a4⟩ := h1
  obtain ⟨b1, b2, b3, b4⟩ := h2
  exact Prod.ext (numS_inj a1 b1 e.1.symm) (numS_inj (by omega) (by omega) e.2.symm)
theorem textS_inj {l m : List (Int × Int)} (h1 : ∀ p ∈ l, KindOk p) (h2 : ∀ p ∈ m, KindOk p) (h : textS l = textS m) : l = m := by
  have e := split_text l
  rw [h, split_text m, rowL, rowL, List.map_cons, List.map_cons, List.map_map, List.map_map] at e
  replace e := (List.cons.inj e).2
  clear h
  induction l generalizing m with
  | nil => cases m with
    | nil => rfl
    | cons q m => cases e
  | cons p l ih => cases m with
    | nil => cases e
    | cons q m =>
      rw [List.map_cons, List.map_cons] at e
      obtain ⟨a, b⟩ := List.cons.inj e
      rw [lineS_inj (h1 p (by simp)) (h2 q (by simp)) a.symm, ih (fun z hz => h1 z (List.mem_cons_of_mem _ hz)) (fun z hz => h2 z (List.mem_cons_of_mem _ hz)) b]
def rowD (l : List (Int × Int)) : D := .obj 0 [kD l]
theorem text_same {l m : List (Int × Int)} (h1 : ∀ p ∈ l, KindOk p) (h2 : ∀ p ∈ m, KindOk p) : (textS l == textS m) = decide (l = m) := by
  by_cases e : l = m
  · subst e; simp
  · rw [decide_eq_false e, beq_eq_false_iff_ne]
    exact fun z => e (textS_inj h1 h2 z)
theorem split_at {α : Type} {l : List α} {i : Nat} {p : α} (h : l[i]? = some p) : l = l.take i ++ p :: l.drop (i + 1) := by
  obtain ⟨hi, e⟩ := List.getElem?_eq_some_iff.mp h
  have := List.take_append_drop i l
  rw [drop_get hi, e] at this
  exact this.symm
theorem good_mid {A B : List (Int × Int)} {p : Int × Int} (h : GoodK (A ++ p :: B)) {c : Int} (h1 : 1 ≤ c) (h2 : c ≤ 10 ^ 30) : GoodK (A ++ (p.1, c) :: B) := by
  refine ⟨by simp, by have := h.len; simpa using this, fun q hq => ?_, ?_⟩
  · have hp := h.ok p (by simp)
    rcases List.mem_append.mp hq with hq | hq
    · exact h.ok q (by simp [hq])
    · rcases List.mem_cons.mp hq with rfl | hq
      · exact ⟨hp.1, hp.2.1, h1, h2⟩
      · exact h.ok q (by simp [hq])
  · have := h.desc
    rw [List.pairwise_append, List.pairwise_cons] at this ⊢
    obtain ⟨a, ⟨b1, b2⟩, c'⟩ := this
    refine ⟨a, ⟨b1, b2⟩, fun x hx y hy => ?_⟩
    rcases List.mem_cons.mp hy with rfl | hy
    · exact c' x hx p (by simp)
    · exact c' x hx y (by simp [hy])
theorem good_out {A B : List (Int × Int)} {p : Int × Int} (h : GoodK (A ++ p :: B)) (hn : A ++ B ≠ []) : GoodK (A ++ B) := by
  refine ⟨hn, ?_, fun q hq => ?_, ?_⟩
  · have := h.len
    simp only [List.length_append, List.length_cons] at this ⊢
    omega
  · rcases List.mem_append.mp hq with hq | hq
    · exact h.ok q (by simp [hq])
    · exact h.ok q (by simp [hq])
  · have := h.desc
    rw [List.pairwise_append, List.pairwise_cons] at this
    rw [List.pairwise_append]
    exact ⟨this.1, this.2.1.2, fun x hx y hy => this.2.2 x hx y (by simp [hy])⟩
theorem good_up {B : List (Int × Int)} {p : Int × Int} (h : GoodK (p :: B)) (h1 : p.1 < 10 ^ 31) : GoodK ((p.1 + 1, p.2) :: B) := by
  have hp := h.ok p (by simp)
  refine ⟨by simp, h.len, fun q hq => ?_, ?_⟩
  · rcases List.mem_cons.mp hq with rfl | hq
    · exact ⟨by show 0 ≤ p.1 + 1; have := hp.1; omega, by show p.1 + 1 ≤ 10 ^ 31; omega, hp.2.2⟩
    · exact h.ok q (by simp [hq])
  · have := h.desc
    rw [List.pairwise_cons] at this ⊢
    exact ⟨fun q hq => by have := this.1 q hq; show q.1 < p.1 + 1; omega, this.2⟩
theorem take_pD (l : List (Int × Int)) (n : Nat) : (l.map pD).take n = (l.take n).map pD := List.map_take.symm
theorem drop_pD (l : List (Int × Int)) (n : Nat) : (l.map pD).drop n = (l.drop n).map pD := List.map_drop.symm
end Dc
set_option maxHeartbeats 2000000
namespace Dc
open PySem L2 PyProof.Rows PySem.W

abbrev sp__law_cast : Sps := castS
def sp__law_any_of : Sps := fun ds Qd _ => ∃ xs : List D, (ds = [.ptr, .lst xs] ∨ ds = [.ptr, .tup xs]) ∧ xs ≠ [] ∧ xs.length ≤ 1000000 ∧ ∀ d ∈ xs, Qd d false
def r__law_any_of (T : Tx) : RS :=
  (sSeq (sRet (dOp fIxA (dVar 1) (dOwn 2 sp__law_cast (dPos 2 (dCons (dVar 0) (dCons (dCall fLen (dConsB (dVar 1) dNil)) dNil)))))) sNext)
theorem pure__law_any_of (T : Tx) : ∀ ds Qd xd, ds.length = 2 → sp__law_any_of ds Qd xd → r__law_any_of T (kdOf Qd xd) (startE (["pail", "some"] : List Str) ds) := by
  rintro _ Qd xd _ ⟨xs, hd, hn, hl, q⟩
  have h0 : 0 < xs.length := List.length_pos_iff.mpr hn
  rcases hd with rfl | rfl
  all_goals
    simp only [r__law_any_of, o_slot_sh, o_slot_own, o_var, o_c, o_op, o_un, o_nil, o_cons, o_consB, o_star, o_items_l, o_items_t, o_tup, o_lst, o_call, o_if, o_blOf, o_andV, o_orV, o_notV, o_test, o_and, o_or, o_not, o_truth, o_yes, o_chain, o_own, o_pos, o_kw, o_asObj, o_meth, o_cm, o_prop, o_sl, o_nth, o_make, o_tagO_t, o_tagO_f, o_slice, o_no, o_so, o_intOf, o_isi, o_fmt, o_js_nil, o_js_cons, o_m1, o_call1, o_next, o_seq, o_break, o_cont, o_ret, o_retN, o_drop, o_ifS, o_set, o_asg, o_put_p, o_put_f, o_put_b, o_leak_p, o_leak_f, o_leak_b, o_for, o_loop_nil, o_gN, o_gT, o_gL, o_gsNil, o_gsCons, o_any, o_enum, o_range1, o_range2, o_lc, o_lcL_nil, o_rev, o_turn, o_ownIn, o_sWr, o_sPut, o_sNever, o_kd_nx, o_kd_rt, o_kd_ex, o_frOf_p, o_frOf_f, o_frOf_b, List.getElem?_cons_zero, List.getElem?_cons_succ, List.map_cons, List.map_nil, List.cons_append, List.nil_append, List.append_nil, List.length_cons, List.length_nil, List.set_cons_zero, List.set_cons_succ, List.replicate, Nat.sub_self, Nat.zero_add, Nat.reduceAdd, Nat.reduceSub, if_true, if_false, Bool.false_eq_true, Bool.not_true, Bool.not_false, true_and, and_true, reduceIte, startE, frz, frz1, wipeE, Option.some.injEq, Sl.sh.injEq, Sl.own.injEq, o_nilT, o_consT, o_par, setD, unB, o_aug, o_augI, o_hN, o_hSub, o_hsNil, o_hsCons, o_hT, o_asgH, o_wrPop, o_dic, o_asT, v_asT_z, v_asT_t, v_asT_i, v_asT_l, o_methR, o_opR, o_ni, v_lenl, v_lent]
    refine ⟨_, rfl, by omega, by omega, fun r h1 h2 => ?_⟩
    obtain ⟨j, rfl⟩ := Int.eq_ofNat_of_zero_le h1
    have hj : j < xs.length := by omega
    exact ⟨xs[j], by rw [atI_get]; exact List.getElem?_eq_getElem hj, q _ (List.getElem_mem hj)⟩

def sp__law_vast : Sps := fun ds Qd _ => ∃ m : Int, ds = [.ptr, .int m] ∧ 0 < m ∧ ∀ r : Int, 0 ≤ r → r < m → Qd (.int r) false
def r__law_vast (T : Tx) : RS :=
  (sSeq (sSet 2 (dC (.int 0))) (sSeq (sFor (iRange1 (dConsB (dC (.int 6)) dNil)) (gN 3) (sSeq (sSet 2 (dOp fAdd (dOp fMul (dVar 2) (dC (.int 1000003))) (dOwn 2 sp__law_cast (dPos 2 (dCons (dVar 0) (dCons (dC (.int 1000003)) dNil)))))) sNext)) (sSeq (sRet (dOp fMod (dCall fInt (dConsB (dVar 2) dNil)) (dVar 1))) sNext)))
theorem pure__law_vast (T : Tx) : ∀ ds Qd xd, ds.length = 2 → sp__law_vast ds Qd xd → r__law_vast T (kdOf Qd xd) (startE (["pail", "many", "found", "turn"] : List Str) ds) := by
  rintro _ Qd xd _ ⟨m, rfl, h0, q⟩
  have ir : inR 6 := ⟨by decide, by decide⟩
  simp only [r__law_vast, o_slot_sh, o_slot_own, o_var, o_c, o_op, o_un, o_nil, o_cons, o_consB, o_star, o_items_l, o_items_t, o_tup, o_lst, o_call, o_if, o_blOf, o_andV, o_orV, o_notV, o_test, o_and, o_or, o_not, o_truth, o_yes, o_chain, o_own, o_pos, o_kw, o_asObj, o_meth, o_cm, o_prop, o_sl, o_nth, o_make, o_tagO_t, o_tagO_f, o_slice, o_no, o_so, o_intOf, o_isi, o_fmt, o_js_nil, o_js_cons, o_m1, o_call1, o_next, o_seq, o_break, o_cont, o_ret, o_retN, o_drop, o_ifS, o_set, o_asg, o_put_p, o_put_f, o_put_b, o_leak_p, o_leak_f, o_leak_b, o_for, o_loop_nil, o_gN, o_gT, o_gL, o_gsNil, o_gsCons, o_any, o_enum, o_range1, o_range2, o_lc, o_lcL_nil, o_rev, o_turn, o_ownIn, o_sWr, o_sPut, o_sNever, o_kd_nx, o_kd_rt, o_kd_ex, o_frOf_p, o_frOf_f, o_frOf_b, List.getElem?_cons_zero, List.getElem?_cons_succ, List.map_cons, List.map_nil, List.cons_append, List.nil_append, List.append_nil, List.length_cons, List.length_nil, List.set_cons_zero, List.set_cons_succ, List.replicate, Nat.sub_self, Nat.zero_add, Nat.reduceAdd, Nat.reduceSub, if_true, if_false, Bool.false_eq_true, Bool.not_true, Bool.not_false, true_and, and_true, reduceIte, startE, frz, frz1, wipeE, Option.some.injEq, Sl.sh.injEq, Sl.own.injEq, o_nilT, o_consT, o_par, setD, unB, o_aug, o_augI, o_hN, o_hSub, o_hsNil, o_hsCons, o_hT, o_asgH, o_wrPop, o_dic, o_asT, v_asT_z, v_asT_t, v_asT_i, v_asT_l, o_methR, o_opR, o_ni, ir]
  have go : ∀ (ds : List D) (n : Int) (s : Sl), dLoop (gN 3) (sSeq (sSet 2 (dOp fAdd (dOp fMul (dVar 2) (dC (.int 1000003))) (dOwn 2 castS (dPos 2 (dCons (dVar 0) (dCons (dC (.int 1000003)) dNil)))))) sNext) { nx := fun ρ => sSeq (sRet (dOp fMod (dCall fInt (dConsB (dVar 2) dNil)) (dVar 1))) sNext (kdOf Qd xd) ρ, rt := fun d g _ => Qd d (frOf g), ex := fun e _ => xd e } ds [.sh .ptr, .sh (.int m), .sh (.int n), s] := by
    intro ds
    induction ds with
    | nil =>
      intro n s
      simp only [dLoop, o_slot_sh, o_slot_own, o_var, o_c, o_op, o_un, o_nil, o_cons, o_consB, o_star, o_items_l, o_items_t, o_tup, o_lst, o_call, o_if, o_blOf, o_andV, o_orV, o_notV, o_test, o_and, o_or, o_not, o_truth, o_yes, o_chain, o_own, o_pos, o_kw, o_asObj, o_meth, o_cm, o_prop, o_sl, o_nth, o_make, o_tagO_t, o_tagO_f, o_slice, o_no, o_so, o_intOf, o_isi, o_fmt, o_js_nil, o_js_cons, o_m1, o_call1, o_next, o_seq, o_break, o_cont, o_ret, o_retN, o_drop, o_ifS, o_set, o_asg, o_put_p, o_put_f, o_put_b, o_leak_p, o_leak_f, o_leak_b, o_for, o_loop_nil, o_gN, o_gT, o_gL, o_gsNil, o_gsCons, o_any, o_enum, o_range1, o_range2, o_lc, o_lcL_nil, o_rev, o_turn, o_ownIn, o_sWr, o_sPut, o_sNever, o_kd_nx, o_kd_rt, o_kd_ex, o_frOf_p, o_frOf_f, o_frOf_b, List.getElem?_cons_zero, List.getElem?_cons_succ, List.map_cons, List.map_nil, List.cons_append, List.nil_append, List.append_nil, List.length_cons, List.length_nil, List.set_cons_zero, List.set_cons_succ, List.replicate, Nat.sub_self, Nat.zero_add, Nat.reduceAdd, Nat.reduceSub, if_true, if_false, Bool.false_eq_true, Bool.not_true, Bool.not_false, true_and, and_true, reduceIte, startE, frz, frz1, wipeE, Option.some.injEq, Sl.sh.injEq, Sl.own.injEq, o_nilT, o_consT, o_par, setD, unB, o_aug, o_augI, o_hN, o_hSub, o_hsNil, o_hsCons, o_hT, o_asgH, o_wrPop, o_dic, o_asT, v_asT_z, v_asT_t, v_asT_i, v_asT_l, o_methR, o_opR, o_ni, fInt, fMod]
      exact ⟨h0, q _ (Int.emod_nonneg _ (by omega)) (Int.emod_lt_of_pos _ h0)⟩
    | cons d ds ih =>
      intro n s
      have mo : IntMulOk n 1000003 := IntMulOk.of_right (by decide)
      simp only [dLoop, o_slot_sh, o_slot_own, o_var, o_c, o_op, o_un, o_nil, o_cons, o_consB, o_star, o_items_l, o_items_t, o_tup, o_lst, o_call, o_if, o_blOf, o_andV, o_orV, o_notV, o_test, o_and, o_or, o_not, o_truth, o_yes, o_chain, o_own, o_pos, o_kw, o_asObj, o_meth, o_cm, o_prop, o_sl, o_nth, o_make, o_tagO_t, o_tagO_f, o_slice, o_no, o_so, o_intOf, o_isi, o_fmt, o_js_nil, o_js_cons, o_m1, o_call1, o_next, o_seq, o_break, o_cont, o_ret, o_retN, o_drop, o_ifS, o_set, o_asg, o_put_p, o_put_f, o_put_b, o_leak_p, o_leak_f, o_leak_b, o_for, o_loop_nil, o_gN, o_gT, o_gL, o_gsNil, o_gsCons, o_any, o_enum, o_range1, o_range2, o_lc, o_lcL_nil, o_rev, o_turn, o_ownIn, o_sWr, o_sPut, o_sNever, o_kd_nx, o_kd_rt, o_kd_ex, o_frOf_p, o_frOf_f, o_frOf_b, List.getElem?_cons_zero, List.getElem?_cons_succ, List.map_cons, List.map_nil, List.cons_append, List.nil_append, List.append_nil, List.length_cons, List.length_nil, List.set_cons_zero, List.set_cons_succ, List.replicate, Nat.sub_self, Nat.zero_add, Nat.reduceAdd, Nat.reduceSub, if_true, if_false, Bool.false_eq_true, Bool.not_true, Bool.not_false, true_and, and_true, reduceIte, startE, frz, frz1, wipeE, Option.some.injEq, Sl.sh.injEq, Sl.own.injEq, o_nilT, o_consT, o_par, setD, unB, o_aug, o_augI, o_hN, o_hSub, o_hsNil, o_hsCons, o_hT, o_asgH, o_wrPop, o_dic, o_asT, v_asT_z, v_asT_t, v_asT_i, v_asT_l, o_methR, o_opR, o_ni, Nat.reduceLT, Nat.lt_add_one, v_mul mo]
      refine ⟨_, rfl, by decide, by decide, fun r _ _ => ?_⟩
      simp only [o_slot_sh, o_slot_own, o_var, o_c, o_op, o_un, o_nil, o_cons, o_consB, o_star, o_items_l, o_items_t, o_tup, o_lst, o_call, o_if, o_blOf, o_andV, o_orV, o_notV, o_test, o_and, o_or, o_not, o_truth, o_yes, o_chain, o_own, o_pos, o_kw, o_asObj, o_meth, o_cm, o_prop, o_sl, o_nth, o_make, o_tagO_t, o_tagO_f, o_slice, o_no, o_so, o_intOf, o_isi, o_fmt, o_js_nil, o_js_cons, o_m1, o_call1, o_next, o_seq, o_break, o_cont, o_ret, o_retN, o_drop, o_ifS, o_set, o_asg, o_put_p, o_put_f, o_put_b, o_leak_p, o_leak_f, o_leak_b, o_for, o_loop_nil, o_gN, o_gT, o_gL, o_gsNil, o_gsCons, o_any, o_enum, o_range1, o_range2, o_lc, o_lcL_nil, o_rev, o_turn, o_ownIn, o_sWr, o_sPut, o_sNever, o_kd_nx, o_kd_rt, o_kd_ex, o_frOf_p, o_frOf_f, o_frOf_b, List.getElem?_cons_zero, List.getElem?_cons_succ, List.map_cons, List.map_nil, List.cons_append, List.nil_append, List.append_nil, List.length_cons, List.length_nil, List.set_cons_zero, List.set_cons_succ, List.replicate, Nat.sub_self, Nat.zero_add, Nat.reduceAdd, Nat.reduceSub, if_true, if_false, Bool.false_eq_true, Bool.not_true, Bool.not_false, true_and, and_true, reduceIte, startE, frz, frz1, wipeE, Option.some.injEq, Sl.sh.injEq, Sl.own.injEq, o_nilT, o_consT, o_par, setD, unB, o_aug, o_augI, o_hN, o_hSub, o_hsNil, o_hsCons, o_hT, o_asgH, o_wrPop, o_dic, o_asT, v_asT_z, v_asT_t, v_asT_i, v_asT_l, o_methR, o_opR, o_ni, v_addi]
      exact ih _ _
  exact go _ 0 .no

def sp__law_tidy : Sps := fun ds Qd _ => ∃ ps : List (Int × Int), (ds = [.lst (ps.map pD)] ∨ ds = [.tup (ps.map pD)]) ∧ ps.length ≤ 1000000 ∧ Qd (kD (tidyL ps)) false
def r__law_tidy (T : Tx) : RS :=
  (sSeq (sSet 1 (fun _ ρ Q => Q (.dic []) .f ρ)) (sSeq (sFor (iAny (dVar 0)) (gT 2 (gsCons (gN 2) (gsCons (gN 3) gsNil))) (sSeq (sPut 1 (dOp fAdd (dGet2 (dVar 1) (dVar 2) (dC (.int 0))) (dVar 3)) (dVar 2)) sNext)) (sSeq (sRet (dCall fTuple (dConsB (dLc (iAny (dRev (dCall fSorted (dConsB (dCall fList (dConsB (dVar 1) dNil)) dNil)))) [1] [2] (gN 2) (dTest (dOp fGt (dOp fIxA (dVar 1) (dVar 2)) (dC (.int 0)))) (dTup (dCons (dVar 2) (dCons (dOp fIxA (dVar 1) (dVar 2)) dNil)))) dNil))) sNext)))
theorem pure__law_tidy (T : Tx) : ∀ ds Qd xd, ds.length = 1 → sp__law_tidy ds Qd xd → r__law_tidy T (kdOf Qd xd) (startE (["pairs_here", "table", "deg", "many"] : List Str) ds) := by
  rintro _ Qd xd _ ⟨ps, hd, hn, q⟩
  have go : ∀ (d0 : D) (suf : List (Int × Int)) (t : List (Int × Int)) (s1 s2 : Sl) (K : Env → Prop), NO s1 → NO s2 → (t.map (·.1)).Nodup → t.length + suf.length ≤ 1000000 → (∀ s1 s2, NO s1 → NO s2 → K [.sh d0, .own (.dic (dicT (suf.foldl addT t))), s1, s2]) →
      dLoop (gT 2 (gsCons (gN 2) (gsCons (gN 3) gsNil))) (sSeq (sPut 1 (dOp fAdd (dGet2 (dVar 1) (dVar 2) (dC (.int 0))) (dVar 3)) (dVar 2)) sNext) { nx := K, rt := fun d g _ => Qd d (frOf g), ex := fun e _ => xd e } (suf.map pD) [.sh d0, .own (.dic (dicT t)), s1, s2] := by
    intro d0 suf
    induction suf with
    | nil => exact fun t s1 s2 K n1 n2 _ _ h => h s1 s2 n1 n2
    | cons p suf ih =>
      intro t s1 s2 K _ _ hnd hlen h
      have hz : (dicT t).length < sizeLine := Nat.lt_of_le_of_lt (by rw [dicT, List.length_map]; simp only [List.length_cons] at hlen; omega : (dicT t).length ≤ 1000000) (by decide)
      have next := ih (addT t p) (.sh (.int p.1)) (.sh (.int p.2)) K .sh .sh (addT_nodup hnd p) (by have := addT_len t p; simp only [List.length_cons] at hlen; omega) h
      simp only [List.map_cons, dLoop, pD, o_slot_sh, o_slot_own, o_var, o_c, o_op, o_un, o_nil, o_cons, o_consB, o_star, o_items_l, o_items_t, o_tup, o_lst, o_call, o_if, o_blOf, o_andV, o_orV, o_notV, o_test, o_and, o_or, o_not, o_truth, o_yes, o_chain, o_own, o_pos, o_kw, o_asObj, o_meth, o_cm, o_prop, o_sl, o_nth, o_make, o_tagO_t, o_tagO_f, o_slice, o_no, o_so, o_intOf, o_isi, o_fmt, o_js_nil, o_js_cons, o_m1, o_call1, o_next, o_seq, o_break, o_cont, o_ret, o_retN, o_drop, o_ifS, o_set, o_asg, o_put_p, o_put_f, o_put_b, o_leak_p, o_leak_f, o_leak_b, o_for, o_loop_nil, o_gN, o_gT, o_gL, o_gsNil, o_gsCons, o_any, o_enum, o_range1, o_range2, o_lc, o_lcL_nil, o_rev, o_turn, o_ownIn, o_sWr, o_sPut, o_sNever, o_kd_nx, o_kd_rt, o_kd_ex, o_frOf_p, o_frOf_f, o_frOf_b, List.getElem?_cons_zero, List.getElem?_cons_succ, List.map_cons, List.map_nil, List.cons_append, List.nil_append, List.append_nil, List.length_cons, List.length_nil, List.set_cons_zero, List.set_cons_succ, List.replicate, Nat.sub_self, Nat.zero_add, Nat.reduceAdd, Nat.reduceSub, if_true, if_false, Bool.false_eq_true, Bool.not_true, Bool.not_false, true_and, and_true, reduceIte, startE, frz, frz1, wipeE, Option.some.injEq, Sl.sh.injEq, Sl.own.injEq, o_nilT, o_consT, o_par, setD, unB, o_aug, o_augI, o_hN, o_hSub, o_hsNil, o_hsCons, o_hT, o_asgH, o_wrPop, o_dic, o_asT, v_asT_z, v_asT_t, v_asT_i, v_asT_l, o_methR, o_opR, o_ni, Nat.reduceLT, Nat.lt_add_one, dGet2, toKey, leak]
      refine ⟨_, rfl, ?_⟩
      rw [valD_T]
      have pt := putT hnd p
      cases e : lookT t p.1 with
      | none =>
        rw [e] at pt
        simp only [Option.map_none, o_slot_sh, o_slot_own, o_var, o_c, o_op, o_un, o_nil, o_cons, o_consB, o_star, o_items_l, o_items_t, o_tup, o_lst, o_call, o_if, o_blOf, o_andV, o_orV, o_notV, o_test, o_and, o_or, o_not, o_truth, o_yes, o_chain, o_own, o_pos, o_kw, o_asObj, o_meth, o_cm, o_prop, o_sl, o_nth, o_make, o_tagO_t, o_tagO_f, o_slice, o_no, o_so, o_intOf, o_isi, o_fmt, o_js_nil, o_js_cons, o_m1, o_call1, o_next, o_seq, o_break, o_cont, o_ret, o_retN, o_drop, o_ifS, o_set, o_asg, o_put_p, o_put_f, o_put_b, o_leak_p, o_leak_f, o_leak_b, o_for, o_loop_nil, o_gN, o_gT, o_gL, o_gsNil, o_gsCons, o_any, o_enum, o_range1, o_range2, o_lc, o_lcL_nil, o_rev, o_turn, o_ownIn, o_sWr, o_sPut, o_sNever, o_kd_nx, o_kd_rt, o_kd_ex, o_frOf_p, o_frOf_f, o_frOf_b, List.getElem?_cons_zero, List.getElem?_cons_succ, List.map_cons, List.map_nil, List.cons_append, List.nil_append, List.append_nil, List.length_cons, List.length_nil, List.set_cons_zero, List.set_cons_succ, List.replicate, Nat.sub_self, Nat.zero_add, Nat.reduceAdd, Nat.reduceSub, if_true, if_false, Bool.false_eq_true, Bool.not_true, Bool.not_false, true_and, and_true, reduceIte, startE, frz, frz1, wipeE, Option.some.injEq, Sl.sh.injEq, Sl.own.injEq, o_nilT, o_consT, o_par, setD, unB, o_aug, o_augI, o_hN, o_hSub, o_hsNil, o_hsCons, o_hT, o_asgH, o_wrPop, o_dic, o_asT, v_asT_z, v_asT_t, v_asT_i, v_asT_l, o_methR, o_opR, o_ni, v_addi, ownIn, putAt, toKey]
        refine ⟨_, rfl, hz, ?_⟩
        rw [show (0 : Int) + p.2 = (none : Option Int).getD 0 + p.2 from rfl, pt]
        exact next
      | some c =>
        rw [e] at pt
        simp only [Option.map_some, o_slot_sh, o_slot_own, o_var, o_c, o_op, o_un, o_nil, o_cons, o_consB, o_star, o_items_l, o_items_t, o_tup, o_lst, o_call, o_if, o_blOf, o_andV, o_orV, o_notV, o_test, o_and, o_or, o_not, o_truth, o_yes, o_chain, o_own, o_pos, o_kw, o_asObj, o_meth, o_cm, o_prop, o_sl, o_nth, o_make, o_tagO_t, o_tagO_f, o_slice, o_no, o_so, o_intOf, o_isi, o_fmt, o_js_nil, o_js_cons, o_m1, o_call1, o_next, o_seq, o_break, o_cont, o_ret, o_retN, o_drop, o_ifS, o_set, o_asg, o_put_p, o_put_f, o_put_b, o_leak_p, o_leak_f, o_leak_b, o_for, o_loop_nil, o_gN, o_gT, o_gL, o_gsNil, o_gsCons, o_any, o_enum, o_range1, o_range2, o_lc, o_lcL_nil, o_rev, o_turn, o_ownIn, o_sWr, o_sPut, o_sNever, o_kd_nx, o_kd_rt, o_kd_ex, o_frOf_p, o_frOf_f, o_frOf_b, List.getElem?_cons_zero, List.getElem?_cons_succ, List.map_cons, List.map_nil, List.cons_append, List.nil_append, List.append_nil, List.length_cons, List.length_nil, List.set_cons_zero, List.set_cons_succ, List.replicate, Nat.sub_self, Nat.zero_add, Nat.reduceAdd, Nat.reduceSub, if_true, if_false, Bool.false_eq_true, Bool.not_true, Bool.not_false, true_and, and_true, reduceIte, startE, frz, frz1, wipeE, Option.some.injEq, Sl.sh.injEq, Sl.own.injEq, o_nilT, o_consT, o_par, setD, unB, o_aug, o_augI, o_hN, o_hSub, o_hsNil, o_hsCons, o_hT, o_asgH, o_wrPop, o_dic, o_asT, v_asT_z, v_asT_t, v_asT_i, v_asT_l, o_methR, o_opR, o_ni, v_addi, ownIn, putAt, toKey]
        refine ⟨_, rfl, hz, ?_⟩
        rw [show c + p.2 = (some c).getD 0 + p.2 from rfl, pt]
        exact next
  have ek : keysD (dicT (tabL ps)) = ((tabL ps).map (·.1)).map D.int := by
    unfold keysD dicT
    rw [List.map_map, List.map_map]; rfl
  have hz : ((sortI ((tabL ps).map (·.1))).reverse.map D.int).length ≤ sizeLine := by
    rw [List.length_map, List.length_reverse, (sortI_perm _).length_eq, List.length_map]
    have len : ∀ (qs t : List (Int × Int)), (qs.foldl addT t).length ≤ t.length + qs.length := by
      intro qs
      induction qs with
      | nil => exact fun t => Nat.le_refl _
      | cons p qs ih =>
        intro t
        have := ih (addT t p)
        have := addT_len t p
        simp only [List.foldl_cons, List.length_cons]
        omega
    have := len ps []
    exact small_line (by unfold tabL; simp only [List.length_nil] at this; omega)
  have h2 : (2 : Nat) ≤ sizeLine := by decide
  rcases hd with rfl | rfl
  all_goals
    simp only [r__law_tidy, o_slot_sh, o_slot_own, o_var, o_c, o_op, o_un, o_nil, o_cons, o_consB, o_star, o_items_l, o_items_t, o_tup, o_lst, o_call, o_if, o_blOf, o_andV, o_orV, o_notV, o_test, o_and, o_or, o_not, o_truth, o_yes, o_chain, o_own, o_pos, o_kw, o_asObj, o_meth, o_cm, o_prop, o_sl, o_nth, o_make, o_tagO_t, o_tagO_f, o_slice, o_no, o_so, o_intOf, o_isi, o_fmt, o_js_nil, o_js_cons, o_m1, o_call1, o_next, o_seq, o_break, o_cont, o_ret, o_retN, o_drop, o_ifS, o_set, o_asg, o_put_p, o_put_f, o_put_b, o_leak_p, o_leak_f, o_leak_b, o_for, o_loop_nil, o_gN, o_gT, o_gL, o_gsNil, o_gsCons, o_any, o_enum, o_range1, o_range2, o_lc, o_lcL_nil, o_rev, o_turn, o_ownIn, o_sWr, o_sPut, o_sNever, o_kd_nx, o_kd_rt, o_kd_ex, o_frOf_p, o_frOf_f, o_frOf_b, List.getElem?_cons_zero, List.getElem?_cons_succ, List.map_cons, List.map_nil, List.cons_append, List.nil_append, List.append_nil, List.length_cons, List.length_nil, List.set_cons_zero, List.set_cons_succ, List.replicate, Nat.sub_self, Nat.zero_add, Nat.reduceAdd, Nat.reduceSub, if_true, if_false, Bool.false_eq_true, Bool.not_true, Bool.not_false, true_and, and_true, reduceIte, startE, frz, frz1, wipeE, Option.some.injEq, Sl.sh.injEq, Sl.own.injEq, o_nilT, o_consT, o_par, setD, unB, o_aug, o_augI, o_hN, o_hSub, o_hsNil, o_hsCons, o_hT, o_asgH, o_wrPop, o_dic, o_asT, v_asT_z, v_asT_t, v_asT_i, v_asT_l, o_methR, o_opR, o_ni]
    refine go _ ps [] .no .no _ .no .no List.nodup_nil (by simpa using hn) fun s1 s2 n1 n2 => ?_
    have fz : ∀ d0 : D, frz [2, 1] [.sh d0, .own (.dic (dicT (tabL ps))), s1, s2] = [.sh d0, .sh (.dic (dicT (tabL ps))), s1, s2] := fun d0 => by
      rcases n1 with rfl | ⟨_, rfl⟩ <;> rfl
    rw [show ps.foldl addT [] = tabL ps from rfl]
    simp only [o_slot_sh, o_slot_own, o_var, o_c, o_op, o_un, o_nil, o_cons, o_consB, o_star, o_items_l, o_items_t, o_tup, o_lst, o_call, o_if, o_blOf, o_andV, o_orV, o_notV, o_test, o_and, o_or, o_not, o_truth, o_yes, o_chain, o_own, o_pos, o_kw, o_asObj, o_meth, o_cm, o_prop, o_sl, o_nth, o_make, o_tagO_t, o_tagO_f, o_slice, o_no, o_so, o_intOf, o_isi, o_fmt, o_js_nil, o_js_cons, o_m1, o_call1, o_next, o_seq, o_break, o_cont, o_ret, o_retN, o_drop, o_ifS, o_set, o_asg, o_put_p, o_put_f, o_put_b, o_leak_p, o_leak_f, o_leak_b, o_for, o_loop_nil, o_gN, o_gT, o_gL, o_gsNil, o_gsCons, o_any, o_enum, o_range1, o_range2, o_lc, o_lcL_nil, o_rev, o_turn, o_ownIn, o_sWr, o_sPut, o_sNever, o_kd_nx, o_kd_rt, o_kd_ex, o_frOf_p, o_frOf_f, o_frOf_b, List.getElem?_cons_zero, List.getElem?_cons_succ, List.map_cons, List.map_nil, List.cons_append, List.nil_append, List.append_nil, List.length_cons, List.length_nil, List.set_cons_zero, List.set_cons_succ, List.replicate, Nat.sub_self, Nat.zero_add, Nat.reduceAdd, Nat.reduceSub, if_true, if_false, Bool.false_eq_true, Bool.not_true, Bool.not_false, true_and, and_true, reduceIte, startE, Option.some.injEq, Sl.sh.injEq, Sl.own.injEq, o_nilT, o_consT, o_par, setD, unB, o_aug, o_augI, o_hN, o_hSub, o_hsNil, o_hsCons, o_hT, o_asgH, o_wrPop, o_dic, o_asT, v_asT_z, v_asT_t, v_asT_i, v_asT_l, o_methR, o_opR, o_ni, fList, fSorted]
    refine ⟨_, ek, ?_⟩
    simp only [o_slot_sh, o_slot_own, o_var, o_c, o_op, o_un, o_nil, o_cons, o_consB, o_star, o_items_l, o_items_t, o_tup, o_lst, o_call, o_if, o_blOf, o_andV, o_orV, o_notV, o_test, o_and, o_or, o_not, o_truth, o_yes, o_chain, o_own, o_pos, o_kw, o_asObj, o_meth, o_cm, o_prop, o_sl, o_nth, o_make, o_tagO_t, o_tagO_f, o_slice, o_no, o_so, o_intOf, o_isi, o_fmt, o_js_nil, o_js_cons, o_m1, o_call1, o_next, o_seq, o_break, o_cont, o_ret, o_retN, o_drop, o_ifS, o_set, o_asg, o_put_p, o_put_f, o_put_b, o_leak_p, o_leak_f, o_leak_b, o_for, o_loop_nil, o_gN, o_gT, o_gL, o_gsNil, o_gsCons, o_any, o_enum, o_range1, o_range2, o_lc, o_lcL_nil, o_rev, o_turn, o_ownIn, o_sWr, o_sPut, o_sNever, o_kd_nx, o_kd_rt, o_kd_ex, o_frOf_p, o_frOf_f, o_frOf_b, List.getElem?_cons_zero, List.getElem?_cons_succ, List.map_cons, List.map_nil, List.cons_append, List.nil_append, List.append_nil, List.length_cons, List.length_nil, List.set_cons_zero, List.set_cons_succ, List.replicate, Nat.sub_self, Nat.zero_add, Nat.reduceAdd, Nat.reduceSub, if_true, if_false, Bool.false_eq_true, Bool.not_true, Bool.not_false, true_and, and_true, reduceIte, startE, Option.some.injEq, Sl.sh.injEq, Sl.own.injEq, o_nilT, o_consT, o_par, setD, unB, o_aug, o_augI, o_hN, o_hSub, o_hsNil, o_hsCons, o_hT, o_asgH, o_wrPop, o_dic, o_asT, v_asT_z, v_asT_t, v_asT_i, v_asT_l, o_methR, o_opR, o_ni, fz, ← List.map_reverse, hz]
    simp only [wipeE, o_slot_sh, o_slot_own, o_var, o_c, o_op, o_un, o_nil, o_cons, o_consB, o_star, o_items_l, o_items_t, o_tup, o_lst, o_call, o_if, o_blOf, o_andV, o_orV, o_notV, o_test, o_and, o_or, o_not, o_truth, o_yes, o_chain, o_own, o_pos, o_kw, o_asObj, o_meth, o_cm, o_prop, o_sl, o_nth, o_make, o_tagO_t, o_tagO_f, o_slice, o_no, o_so, o_intOf, o_isi, o_fmt, o_js_nil, o_js_cons, o_m1, o_call1, o_next, o_seq, o_break, o_cont, o_ret, o_retN, o_drop, o_ifS, o_set, o_asg, o_put_p, o_put_f, o_put_b, o_leak_p, o_leak_f, o_leak_b, o_for, o_loop_nil, o_gN, o_gT, o_gL, o_gsNil, o_gsCons, o_any, o_enum, o_range1, o_range2, o_lc, o_lcL_nil, o_rev, o_turn, o_ownIn, o_sWr, o_sPut, o_sNever, o_kd_nx, o_kd_rt, o_kd_ex, o_frOf_p, o_frOf_f, o_frOf_b, List.getElem?_cons_zero, List.getElem?_cons_succ, List.map_cons, List.map_nil, List.cons_append, List.nil_append, List.append_nil, List.length_cons, List.length_nil, List.set_cons_zero, List.set_cons_succ, List.replicate, Nat.sub_self, Nat.zero_add, Nat.reduceAdd, Nat.reduceSub, if_true, if_false, Bool.false_eq_true, Bool.not_true, Bool.not_false, true_and, and_true, reduceIte, startE, Option.some.injEq, Sl.sh.injEq, Sl.own.injEq, o_nilT, o_consT, o_par, setD, unB, o_aug, o_augI, o_hN, o_hSub, o_hsNil, o_hsCons, o_hT, o_asgH, o_wrPop, o_dic, o_asT, v_asT_z, v_asT_t, v_asT_i, v_asT_l, o_methR, o_opR, o_ni]
    refine lcL_filter D.int (fun d => pD (d, (lookT (tabL ps) d).getD 0)) (fun d => decide (0 < (lookT (tabL ps) d).getD 0)) (fun d hd R N hR hN => ?_) ?_
    · have hm : d ∈ (tabL ps).map (·.1) := (sortI_perm _).mem_iff.mp (List.mem_reverse.mp hd)
      obtain ⟨c, hc⟩ : ∃ c, lookT (tabL ps) d = some c := by
        cases e : lookT (tabL ps) d with
        | none => exact (lookT_none.mp e hm).elim
        | some c => exact ⟨c, rfl⟩
      have hv : valD (dicT (tabL ps)) (.inl d) = some (.int c) := by rw [valD_T, hc]; rfl
      have hx : ∀ k : D → Tag → Prop, fIxA (.dic (dicT (tabL ps))) (.int d) k = k (.int c) .p := fun k => propext ⟨fun ⟨key, z, e1, e2, q⟩ => by cases e1; rw [hv] at e2; cases e2; exact q, fun q => ⟨_, _, rfl, hv, q⟩⟩
      rw [hc] at hR hN
      simp only [o_slot_sh, o_slot_own, o_var, o_c, o_op, o_un, o_nil, o_cons, o_consB, o_star, o_items_l, o_items_t, o_tup, o_lst, o_call, o_if, o_blOf, o_andV, o_orV, o_notV, o_test, o_and, o_or, o_not, o_truth, o_yes, o_chain, o_own, o_pos, o_kw, o_asObj, o_meth, o_cm, o_prop, o_sl, o_nth, o_make, o_tagO_t, o_tagO_f, o_slice, o_no, o_so, o_intOf, o_isi, o_fmt, o_js_nil, o_js_cons, o_m1, o_call1, o_next, o_seq, o_break, o_cont, o_ret, o_retN, o_drop, o_ifS, o_set, o_asg, o_put_p, o_put_f, o_put_b, o_leak_p, o_leak_f, o_leak_b, o_for, o_loop_nil, o_gN, o_gT, o_gL, o_gsNil, o_gsCons, o_any, o_enum, o_range1, o_range2, o_lc, o_lcL_nil, o_rev, o_turn, o_ownIn, o_sWr, o_sPut, o_sNever, o_kd_nx, o_kd_rt, o_kd_ex, o_frOf_p, o_frOf_f, o_frOf_b, List.getElem?_cons_zero, List.getElem?_cons_succ, List.map_cons, List.map_nil, List.cons_append, List.nil_append, List.append_nil, List.length_cons, List.length_nil, List.set_cons_zero, List.set_cons_succ, List.replicate, Nat.sub_self, Nat.zero_add, Nat.reduceAdd, Nat.reduceSub, if_true, if_false, Bool.false_eq_true, Bool.not_true, Bool.not_false, true_and, and_true, reduceIte, startE, frz, frz1, wipeE, Option.some.injEq, Sl.sh.injEq, Sl.own.injEq, o_nilT, o_consT, o_par, setD, unB, o_aug, o_augI, o_hN, o_hSub, o_hsNil, o_hsCons, o_hT, o_asgH, o_wrPop, o_dic, o_asT, v_asT_z, v_asT_t, v_asT_i, v_asT_l, o_methR, o_opR, o_ni, hx, v_ord, h2, Nat.reduceLT, Nat.lt_add_one]
      by_cases h0 : 0 < c
      · have := hR (decide_eq_true h0)
        simp only [h0, decide_true, o_slot_sh, o_slot_own, o_var, o_c, o_op, o_un, o_nil, o_cons, o_consB, o_star, o_items_l, o_items_t, o_tup, o_lst, o_call, o_if, o_blOf, o_andV, o_orV, o_notV, o_test, o_and, o_or, o_not, o_truth, o_yes, o_chain, o_own, o_pos, o_kw, o_asObj, o_meth, o_cm, o_prop, o_sl, o_nth, o_make, o_tagO_t, o_tagO_f, o_slice, o_no, o_so, o_intOf, o_isi, o_fmt, o_js_nil, o_js_cons, o_m1, o_call1, o_next, o_seq, o_break, o_cont, o_ret, o_retN, o_drop, o_ifS, o_set, o_asg, o_put_p, o_put_f, o_put_b, o_leak_p, o_leak_f, o_leak_b, o_for, o_loop_nil, o_gN, o_gT, o_gL, o_gsNil, o_gsCons, o_any, o_enum, o_range1, o_range2, o_lc, o_lcL_nil, o_rev, o_turn, o_ownIn, o_sWr, o_sPut, o_sNever, o_kd_nx, o_kd_rt, o_kd_ex, o_frOf_p, o_frOf_f, o_frOf_b, List.getElem?_cons_zero, List.getElem?_cons_succ, List.map_cons, List.map_nil, List.cons_append, List.nil_append, List.append_nil, List.length_cons, List.length_nil, List.set_cons_zero, List.set_cons_succ, List.replicate, Nat.sub_self, Nat.zero_add, Nat.reduceAdd, Nat.reduceSub, if_true, if_false, Bool.false_eq_true, Bool.not_true, Bool.not_false, true_and, and_true, reduceIte, startE, frz, frz1, wipeE, Option.some.injEq, Sl.sh.injEq, Sl.own.injEq, o_nilT, o_consT, o_par, setD, unB, o_aug, o_augI, o_hN, o_hSub, o_hsNil, o_hsCons, o_hT, o_asgH, o_wrPop, o_dic, o_asT, v_asT_z, v_asT_t, v_asT_i, v_asT_l, o_methR, o_opR, o_ni]
        exact this
      · have := hN (decide_eq_false h0)
        simp only [h0, decide_false, o_slot_sh, o_slot_own, o_var, o_c, o_op, o_un, o_nil, o_cons, o_consB, o_star, o_items_l, o_items_t, o_tup, o_lst, o_call, o_if, o_blOf, o_andV, o_orV, o_notV, o_test, o_and, o_or, o_not, o_truth, o_yes, o_chain, o_own, o_pos, o_kw, o_asObj, o_meth, o_cm, o_prop, o_sl, o_nth, o_make, o_tagO_t, o_tagO_f, o_slice, o_no, o_so, o_intOf, o_isi, o_fmt, o_js_nil, o_js_cons, o_m1, o_call1, o_next, o_seq, o_break, o_cont, o_ret, o_retN, o_drop, o_ifS, o_set, o_asg, o_put_p, o_put_f, o_put_b, o_leak_p, o_leak_f, o_leak_b, o_for, o_loop_nil, o_gN, o_gT, o_gL, o_gsNil, o_gsCons, o_any, o_enum, o_range1, o_range2, o_lc, o_lcL_nil, o_rev, o_turn, o_ownIn, o_sWr, o_sPut, o_sNever, o_kd_nx, o_kd_rt, o_kd_ex, o_frOf_p, o_frOf_f, o_frOf_b, List.getElem?_cons_zero, List.getElem?_cons_succ, List.map_cons, List.map_nil, List.cons_append, List.nil_append, List.append_nil, List.length_cons, List.length_nil, List.set_cons_zero, List.set_cons_succ, List.replicate, Nat.sub_self, Nat.zero_add, Nat.reduceAdd, Nat.reduceSub, if_true, if_false, Bool.false_eq_true, Bool.not_true, Bool.not_false, true_and, and_true, reduceIte, startE, frz, frz1, wipeE, Option.some.injEq, Sl.sh.injEq, Sl.own.injEq, o_nilT, o_consT, o_par, setD, unB, o_aug, o_augI, o_hN, o_hSub, o_hsNil, o_hsCons, o_hT, o_asgH, o_wrPop, o_dic, o_asT, v_asT_z, v_asT_t, v_asT_i, v_asT_l, o_methR, o_opR, o_ni]
        exact this
    · simp only [o_slot_sh, o_slot_own, o_var, o_c, o_op, o_un, o_nil, o_cons, o_consB, o_star, o_items_l, o_items_t, o_tup, o_lst, o_call, o_if, o_blOf, o_andV, o_orV, o_notV, o_test, o_and, o_or, o_not, o_truth, o_yes, o_chain, o_own, o_pos, o_kw, o_asObj, o_meth, o_cm, o_prop, o_sl, o_nth, o_make, o_tagO_t, o_tagO_f, o_slice, o_no, o_so, o_intOf, o_isi, o_fmt, o_js_nil, o_js_cons, o_m1, o_call1, o_next, o_seq, o_break, o_cont, o_ret, o_retN, o_drop, o_ifS, o_set, o_asg, o_put_p, o_put_f, o_put_b, o_leak_p, o_leak_f, o_leak_b, o_for, o_loop_nil, o_gN, o_gT, o_gL, o_gsNil, o_gsCons, o_any, o_enum, o_range1, o_range2, o_lc, o_lcL_nil, o_rev, o_turn, o_ownIn, o_sWr, o_sPut, o_sNever, o_kd_nx, o_kd_rt, o_kd_ex, o_frOf_p, o_frOf_f, o_frOf_b, List.getElem?_cons_zero, List.getElem?_cons_succ, List.map_cons, List.map_nil, List.cons_append, List.nil_append, List.append_nil, List.length_cons, List.length_nil, List.set_cons_zero, List.set_cons_succ, List.replicate, Nat.sub_self, Nat.zero_add, Nat.reduceAdd, Nat.reduceSub, if_true, if_false, Bool.false_eq_true, Bool.not_true, Bool.not_false, true_and, and_true, reduceIte, startE, frz, frz1, wipeE, Option.some.injEq, Sl.sh.injEq, Sl.own.injEq, o_nilT, o_consT, o_par, setD, unB, o_aug, o_augI, o_hN, o_hSub, o_hsNil, o_hsCons, o_hT, o_asgH, o_wrPop, o_dic, o_asT, v_asT_z, v_asT_t, v_asT_i, v_asT_l, o_methR, o_opR, o_ni, v_tupl]
      rw [tidyL, kD, List.map_map] at q
      exact q

def sp__law_drawn : Sps := fun ds Qd _ => ds = [.ptr] ∧ ∀ l, GoodK l → Qd (kD l) false
def BndT (p : Int × Int) : Prop := 0 ≤ p.1 ∧ p.1 ≤ 10 ^ 31 ∧ 1 ≤ p.2
def r__law_drawn (T : Tx) : RS :=
  (sSeq (sSet 1 (fun _ ρ Q => Q (.dic []) .f ρ)) (sSeq (sFor (iRange1 (dConsB (dOwn 2 sp__law_any_of (dPos 2 (dCons (dVar 0) (dCons (dLst (dCons (dC (.int 1)) (dCons (dC (.int 1)) (dCons (dC (.int 2)) (dCons (dC (.int 3)) (dCons (dC (.int 4)) (dCons (dC (.int 6)) (dCons (dC (.int 10)) (dCons (dC (.int 10)) dNil))))))))) dNil)))) dNil)) (gN 2) (sSeq (sPar [3, 4] (dConsT (dOwn 2 sp__law_vast (dPos 2 (dCons (dVar 0) (dCons (dOp fAdd (dOp fPow (dC (.int 10)) (dC (.int 31))) (dC (.int 1))) dNil)))) (dConsT (dOwn 2 sp__law_cast (dPos 2 (dCons (dVar 0) (dCons (dC (.int 9)) dNil)))) dNilT))) (sSeq (sSet 5 (dOwn 2 sp__law_any_of (dPos 2 (dCons (dVar 0) (dCons (dLst (dCons (dOwn 2 sp__law_cast (dPos 2 (dCons (dVar 0) (dCons (dC (.int 6)) dNil)))) (dCons (dOwn 2 sp__law_cast (dPos 2 (dCons (dVar 0) (dCons (dC (.int 20)) dNil)))) (dCons (dVar 3) (dCons (dOp fSub (dOp fPow (dC (.int 10)) (dC (.int 31))) (dOwn 2 sp__law_cast (dPos 2 (dCons (dVar 0) (dCons (dC (.int 3)) dNil))))) dNil))))) dNil))))) (sSeq (sPut 1 (dOwn 2 sp__law_any_of (dPos 2 (dCons (dVar 0) (dCons (dLst (dCons (dC (.int 1)) (dCons (dC (.int 1)) (dCons (dC (.int 2)) (dCons (dC (.int 3)) (dCons (dOp fAdd (dC (.int 1)) (dVar 4)) (dCons (dOp fSub (dOp fPow (dC (.int 10)) (dC (.int 30))) (dVar 4)) (dCons (dOp fAdd (dC (.int 1)) (dOp fDiv (dVar 3) (dC (.int 10)))) dNil)))))))) dNil)))) (dVar 5)) sNext)))) (sSeq (sRet (dOwn 1 sp__law_tidy (dPos 1 (dCons (dLc (iAny (dCall fList (dConsB (dVar 1) dNil))) [1] [5] (gN 5) dYes (dTup (dCons (dVar 5) (dCons (dCall fMin (dConsB (dOp fPow (dC (.int 10)) (dC (.int 30))) (dConsB (dOp fIxA (dVar 1) (dVar 5)) dNil))) dNil)))) dNil)))) sNext)))
theorem pure__law_drawn (T : Tx) : ∀ ds Qd xd, ds.length = 1 → sp__law_drawn ds Qd xd → r__law_drawn T (kdOf Qd xd) (startE (["pail", "table", "turn", "great", "small", "deg"] : List Str) ds) := by
  rintro _ Qd xd _ ⟨rfl, q⟩
  have z8 : (8 : Nat) ≤ sizeLine := by decide
  have z7 : (7 : Nat) ≤ sizeLine := by decide
  have z4 : (4 : Nat) ≤ sizeLine := by decide
  have z2 : (2 : Nat) ≤ sizeLine := by decide
  simp only [r__law_drawn, o_slot_sh, o_slot_own, o_var, o_c, o_op, o_un, o_nil, o_cons, o_consB, o_star, o_items_l, o_items_t, o_tup, o_lst, o_call, o_if, o_blOf, o_andV, o_orV, o_notV, o_test, o_and, o_or, o_not, o_truth, o_yes, o_chain, o_own, o_pos, o_kw, o_asObj, o_meth, o_cm, o_prop, o_sl, o_nth, o_make, o_tagO_t, o_tagO_f, o_slice, o_no, o_so, o_intOf, o_isi, o_fmt, o_js_nil, o_js_cons, o_m1, o_call1, o_next, o_seq, o_break, o_cont, o_ret, o_retN, o_drop, o_ifS, o_set, o_asg, o_put_p, o_put_f, o_put_b, o_leak_p, o_leak_f, o_leak_b, o_for, o_loop_nil, o_gN, o_gT, o_gL, o_gsNil, o_gsCons, o_any, o_enum, o_range1, o_range2, o_lc, o_lcL_nil, o_rev, o_turn, o_ownIn, o_sWr, o_sPut, o_sNever, o_kd_nx, o_kd_rt, o_kd_ex, o_frOf_p, o_frOf_f, o_frOf_b, List.getElem?_cons_zero, List.getElem?_cons_succ, List.map_cons, List.map_nil, List.cons_append, List.nil_append, List.append_nil, List.length_cons, List.length_nil, List.set_cons_zero, List.set_cons_succ, List.replicate, Nat.sub_self, Nat.zero_add, Nat.reduceAdd, Nat.reduceSub, if_true, if_false, Bool.false_eq_true, Bool.not_true, Bool.not_false, true_and, and_true, reduceIte, startE, frz, frz1, wipeE, Option.some.injEq, Sl.sh.injEq, Sl.own.injEq, o_nilT, o_consT, o_par, setD, unB, o_aug, o_augI, o_hN, o_hSub, o_hsNil, o_hsCons, o_hT, o_asgH, o_wrPop, o_dic, o_asT, v_asT_z, v_asT_t, v_asT_i, v_asT_l, o_methR, o_opR, o_ni, z8, sp__law_any_of]
  refine ⟨_, .inl rfl, by simp, by decide, fun d hd => ?_⟩
  obtain ⟨n, rfl, n1, n2⟩ : ∃ n : Nat, d = .int (n : Nat) ∧ 1 ≤ n ∧ n ≤ 10 := by
    simp only [List.mem_cons, List.not_mem_nil, or_false] at hd
    rcases hd with rfl | rfl | rfl | rfl | rfl | rfl | rfl | rfl <;> first
      | exact ⟨1, rfl, by decide, by decide⟩
      | exact ⟨2, rfl, by decide, by decide⟩
      | exact ⟨3, rfl, by decide, by decide⟩
      | exact ⟨4, rfl, by decide, by decide⟩
      | exact ⟨6, rfl, by decide, by decide⟩
      | exact ⟨10, rfl, by decide, by decide⟩
  refine ⟨⟨by omega, by omega⟩, ?_⟩
  refine loop_inv (fun i ρ => ∃ t s2 s3 s4 s5, ρ = [.sh .ptr, .own (.dic (dicT t)), s2, s3, s4, s5] ∧ NO s2 ∧ NO s3 ∧ NO s4 ∧ NO s5 ∧ (t.map (·.1)).Nodup ∧ t.length ≤ i ∧ (i = 0 ∨ t ≠ []) ∧ ∀ p ∈ t, BndT p) (n := 0) ⟨[], .no, .no, .no, .no, rfl, .no, .no, .no, .no, List.nodup_nil, Nat.le_refl _, .inl rfl, by simp⟩ (fun d hd i ρ K hi h next => ?_) (fun ρ h => ?_)
  · obtain ⟨t, s2, s3, s4, s5, rfl, m2, m3, m4, m5, nd, tl, tn, bd⟩ := h
    have dv : ∀ g : Int, Builtin.divisionGoesByPylong g 10 = false := fun g => PyProof.noPylong_small (by decide)
    simp only [o_slot_sh, o_slot_own, o_var, o_c, o_op, o_un, o_nil, o_cons, o_consB, o_star, o_items_l, o_items_t, o_tup, o_lst, o_call, o_if, o_blOf, o_andV, o_orV, o_notV, o_test, o_and, o_or, o_not, o_truth, o_yes, o_chain, o_own, o_pos, o_kw, o_asObj, o_meth, o_cm, o_prop, o_sl, o_nth, o_make, o_tagO_t, o_tagO_f, o_slice, o_no, o_so, o_intOf, o_isi, o_fmt, o_js_nil, o_js_cons, o_m1, o_call1, o_next, o_seq, o_break, o_cont, o_ret, o_retN, o_drop, o_ifS, o_set, o_asg, o_put_p, o_put_f, o_put_b, o_leak_p, o_leak_f, o_leak_b, o_for, o_loop_nil, o_gN, o_gT, o_gL, o_gsNil, o_gsCons, o_any, o_enum, o_range1, o_range2, o_lc, o_lcL_nil, o_rev, o_turn, o_ownIn, o_sWr, o_sPut, o_sNever, o_kd_nx, o_kd_rt, o_kd_ex, o_frOf_p, o_frOf_f, o_frOf_b, List.getElem?_cons_zero, List.getElem?_cons_succ, List.map_cons, List.map_nil, List.cons_append, List.nil_append, List.append_nil, List.length_cons, List.length_nil, List.set_cons_zero, List.set_cons_succ, List.replicate, Nat.sub_self, Nat.zero_add, Nat.reduceAdd, Nat.reduceSub, if_true, if_false, Bool.false_eq_true, Bool.not_true, Bool.not_false, true_and, and_true, reduceIte, startE, frz, frz1, wipeE, Option.some.injEq, Sl.sh.injEq, Sl.own.injEq, o_nilT, o_consT, o_par, setD, unB, o_aug, o_augI, o_hN, o_hSub, o_hsNil, o_hsCons, o_hT, o_asgH, o_wrPop, o_dic, o_asT, v_asT_z, v_asT_t, v_asT_i, v_asT_l, o_methR, o_opR, o_ni, Nat.reduceLT, Nat.lt_add_one, v_p31, v_p30, v_addi, v_subi, sp__law_vast]
    refine ⟨_, rfl, by decide, fun great g1 g2 => ?_⟩
    refine ⟨_, rfl, by decide, by decide, fun small c1 c2 => ?_⟩
    simp only [o_slot_sh, o_slot_own, o_var, o_c, o_op, o_un, o_nil, o_cons, o_consB, o_star, o_items_l, o_items_t, o_tup, o_lst, o_call, o_if, o_blOf, o_andV, o_orV, o_notV, o_test, o_and, o_or, o_not, o_truth, o_yes, o_chain, o_own, o_pos, o_kw, o_asObj, o_meth, o_cm, o_prop, o_sl, o_nth, o_make, o_tagO_t, o_tagO_f, o_slice, o_no, o_so, o_intOf, o_isi, o_fmt, o_js_nil, o_js_cons, o_m1, o_call1, o_next, o_seq, o_break, o_cont, o_ret, o_retN, o_drop, o_ifS, o_set, o_asg, o_put_p, o_put_f, o_put_b, o_leak_p, o_leak_f, o_leak_b, o_for, o_loop_nil, o_gN, o_gT, o_gL, o_gsNil, o_gsCons, o_any, o_enum, o_range1, o_range2, o_lc, o_lcL_nil, o_rev, o_turn, o_ownIn, o_sWr, o_sPut, o_sNever, o_kd_nx, o_kd_rt, o_kd_ex, o_frOf_p, o_frOf_f, o_frOf_b, List.getElem?_cons_zero, List.getElem?_cons_succ, List.map_cons, List.map_nil, List.cons_append, List.nil_append, List.append_nil, List.length_cons, List.length_nil, List.set_cons_zero, List.set_cons_succ, List.replicate, Nat.sub_self, Nat.zero_add, Nat.reduceAdd, Nat.reduceSub, if_true, if_false, Bool.false_eq_true, Bool.not_true, Bool.not_false, true_and, and_true, reduceIte, startE, frz, frz1, wipeE, Option.some.injEq, Sl.sh.injEq, Sl.own.injEq, o_nilT, o_consT, o_par, setD, unB, o_aug, o_augI, o_hN, o_hSub, o_hsNil, o_hsCons, o_hT, o_asgH, o_wrPop, o_dic, o_asT, v_asT_z, v_asT_t, v_asT_i, v_asT_l, o_methR, o_opR, o_ni, Nat.reduceLT, Nat.lt_add_one]
    refine ⟨_, rfl, by decide, by decide, fun a1 a2 a3 => ?_⟩
    simp only [o_slot_sh, o_slot_own, o_var, o_c, o_op, o_un, o_nil, o_cons, o_consB, o_star, o_items_l, o_items_t, o_tup, o_lst, o_call, o_if, o_blOf, o_andV, o_orV, o_notV, o_test, o_and, o_or, o_not, o_truth, o_yes, o_chain, o_own, o_pos, o_kw, o_asObj, o_meth, o_cm, o_prop, o_sl, o_nth, o_make, o_tagO_t, o_tagO_f, o_slice, o_no, o_so, o_intOf, o_isi, o_fmt, o_js_nil, o_js_cons, o_m1, o_call1, o_next, o_seq, o_break, o_cont, o_ret, o_retN, o_drop, o_ifS, o_set, o_asg, o_put_p, o_put_f, o_put_b, o_leak_p, o_leak_f, o_leak_b, o_for, o_loop_nil, o_gN, o_gT, o_gL, o_gsNil, o_gsCons, o_any, o_enum, o_range1, o_range2, o_lc, o_lcL_nil, o_rev, o_turn, o_ownIn, o_sWr, o_sPut, o_sNever, o_kd_nx, o_kd_rt, o_kd_ex, o_frOf_p, o_frOf_f, o_frOf_b, List.getElem?_cons_zero, List.getElem?_cons_succ, List.map_cons, List.map_nil, List.cons_append, List.nil_append, List.append_nil, List.length_cons, List.length_nil, List.set_cons_zero, List.set_cons_succ, List.replicate, Nat.sub_self, Nat.zero_add, Nat.reduceAdd, Nat.reduceSub, if_true, if_false, Bool.false_eq_true, Bool.not_true, Bool.not_false, true_and, and_true, reduceIte, startE, frz, frz1, wipeE, Option.some.injEq, Sl.sh.injEq, Sl.own.injEq, o_nilT, o_consT, o_par, setD, unB, o_aug, o_augI, o_hN, o_hSub, o_hsNil, o_hsCons, o_hT, o_asgH, o_wrPop, o_dic, o_asT, v_asT_z, v_asT_t, v_asT_i, v_asT_l, o_methR, o_opR, o_ni, Nat.reduceLT, Nat.lt_add_one]
    refine ⟨_, rfl, by decide, by decide, fun b1 b2 b3 => ?_⟩
    simp only [o_slot_sh, o_slot_own, o_var, o_c, o_op, o_un, o_nil, o_cons, o_consB, o_star, o_items_l, o_items_t, o_tup, o_lst, o_call, o_if, o_blOf, o_andV, o_orV, o_notV, o_test, o_and, o_or, o_not, o_truth, o_yes, o_chain, o_own, o_pos, o_kw, o_asObj, o_meth, o_cm, o_prop, o_sl, o_nth, o_make, o_tagO_t, o_tagO_f, o_slice, o_no, o_so, o_intOf, o_isi, o_fmt, o_js_nil, o_js_cons, o_m1, o_call1, o_next, o_seq, o_break, o_cont, o_ret, o_retN, o_drop, o_ifS, o_set, o_asg, o_put_p, o_put_f, o_put_b, o_leak_p, o_leak_f, o_leak_b, o_for, o_loop_nil, o_gN, o_gT, o_gL, o_gsNil, o_gsCons, o_any, o_enum, o_range1, o_range2, o_lc, o_lcL_nil, o_rev, o_turn, o_ownIn, o_sWr, o_sPut, o_sNever, o_kd_nx, o_kd_rt, o_kd_ex, o_frOf_p, o_frOf_f, o_frOf_b, List.getElem?_cons_zero, List.getElem?_cons_succ, List.map_cons, List.map_nil, List.cons_append, List.nil_append, List.append_nil, List.length_cons, List.length_nil, List.set_cons_zero, List.set_cons_succ, List.replicate, Nat.sub_self, Nat.zero_add, Nat.reduceAdd, Nat.reduceSub, if_true, if_false, Bool.false_eq_true, Bool.not_true, Bool.not_false, true_and, and_true, reduceIte, startE, frz, frz1, wipeE, Option.some.injEq, Sl.sh.injEq, Sl.own.injEq, o_nilT, o_consT, o_par, setD, unB, o_aug, o_augI, o_hN, o_hSub, o_hsNil, o_hsCons, o_hT, o_asgH, o_wrPop, o_dic, o_asT, v_asT_z, v_asT_t, v_asT_i, v_asT_l, o_methR, o_opR, o_ni, Nat.reduceLT, Nat.lt_add_one]
    refine ⟨_, rfl, by decide, by decide, fun e1 e2 e3 => ?_⟩
    simp only [o_slot_sh, o_slot_own, o_var, o_c, o_op, o_un, o_nil, o_cons, o_consB, o_star, o_items_l, o_items_t, o_tup, o_lst, o_call, o_if, o_blOf, o_andV, o_orV, o_notV, o_test, o_and, o_or, o_not, o_truth, o_yes, o_chain, o_own, o_pos, o_kw, o_asObj, o_meth, o_cm, o_prop, o_sl, o_nth, o_make, o_tagO_t, o_tagO_f, o_slice, o_no, o_so, o_intOf, o_isi, o_fmt, o_js_nil, o_js_cons, o_m1, o_call1, o_next, o_seq, o_break, o_cont, o_ret, o_retN, o_drop, o_ifS, o_set, o_asg, o_put_p, o_put_f, o_put_b, o_leak_p, o_leak_f, o_leak_b, o_for, o_loop_nil, o_gN, o_gT, o_gL, o_gsNil, o_gsCons, o_any, o_enum, o_range1, o_range2, o_lc, o_lcL_nil, o_rev, o_turn, o_ownIn, o_sWr, o_sPut, o_sNever, o_kd_nx, o_kd_rt, o_kd_ex, o_frOf_p, o_frOf_f, o_frOf_b, List.getElem?_cons_zero, List.getElem?_cons_succ, List.map_cons, List.map_nil, List.cons_append, List.nil_append, List.append_nil, List.length_cons, List.length_nil, List.set_cons_zero, List.set_cons_succ, List.replicate, Nat.sub_self, Nat.zero_add, Nat.reduceAdd, Nat.reduceSub, if_true, if_false, Bool.false_eq_true, Bool.not_true, Bool.not_false, true_and, and_true, reduceIte, startE, frz, frz1, wipeE, Option.some.injEq, Sl.sh.injEq, Sl.own.injEq, o_nilT, o_consT, o_par, setD, unB, o_aug, o_augI, o_hN, o_hSub, o_hsNil, o_hsCons, o_hT, o_asgH, o_wrPop, o_dic, o_asT, v_asT_z, v_asT_t, v_asT_i, v_asT_l, o_methR, o_opR, o_ni, Nat.reduceLT, Nat.lt_add_one, z4, v_subi, sp__law_any_of]
    refine ⟨_, .inl rfl, by simp, (by decide : (4 : Nat) ≤ 1000000), fun deg hdeg => ?_⟩
    obtain ⟨dg, rfl, dg1, dg2⟩ : ∃ dg : Int, deg = .int dg ∧ 0 ≤ dg ∧ dg ≤ 10 ^ 31 := by
      simp only [List.mem_cons, List.not_mem_nil, or_false] at hdeg
      rcases hdeg with rfl | rfl | rfl | rfl
      · exact ⟨_, rfl, a2, by omega⟩
      · exact ⟨_, rfl, b2, by omega⟩
      · exact ⟨_, rfl, g1, by omega⟩
      · exact ⟨_, rfl, by omega, by omega⟩
    simp only [o_slot_sh, o_slot_own, o_var, o_c, o_op, o_un, o_nil, o_cons, o_consB, o_star, o_items_l, o_items_t, o_tup, o_lst, o_call, o_if, o_blOf, o_andV, o_orV, o_notV, o_test, o_and, o_or, o_not, o_truth, o_yes, o_chain, o_own, o_pos, o_kw, o_asObj, o_meth, o_cm, o_prop, o_sl, o_nth, o_make, o_tagO_t, o_tagO_f, o_slice, o_no, o_so, o_intOf, o_isi, o_fmt, o_js_nil, o_js_cons, o_m1, o_call1, o_next, o_seq, o_break, o_cont, o_ret, o_retN, o_drop, o_ifS, o_set, o_asg, o_put_p, o_put_f, o_put_b, o_leak_p, o_leak_f, o_leak_b, o_for, o_loop_nil, o_gN, o_gT, o_gL, o_gsNil, o_gsCons, o_any, o_enum, o_range1, o_range2, o_lc, o_lcL_nil, o_rev, o_turn, o_ownIn, o_sWr, o_sPut, o_sNever, o_kd_nx, o_kd_rt, o_kd_ex, o_frOf_p, o_frOf_f, o_frOf_b, List.getElem?_cons_zero, List.getElem?_cons_succ, List.map_cons, List.map_nil, List.cons_append, List.nil_append, List.append_nil, List.length_cons, List.length_nil, List.set_cons_zero, List.set_cons_succ, List.replicate, Nat.sub_self, Nat.zero_add, Nat.reduceAdd, Nat.reduceSub, if_true, if_false, Bool.false_eq_true, Bool.not_true, Bool.not_false, true_and, and_true, reduceIte, startE, frz, frz1, wipeE, Option.some.injEq, Sl.sh.injEq, Sl.own.injEq, o_nilT, o_consT, o_par, setD, unB, o_aug, o_augI, o_hN, o_hSub, o_hsNil, o_hsCons, o_hT, o_asgH, o_wrPop, o_dic, o_asT, v_asT_z, v_asT_t, v_asT_i, v_asT_l, o_methR, o_opR, o_ni, Nat.reduceLT, Nat.lt_add_one, v_addi, v_subi, v_p30, z7, fDiv, dv, Int.reduceLT]
    refine ⟨_, .inl rfl, by simp, (by decide : (7 : Nat) ≤ 1000000), fun val hval => ?_⟩
    obtain ⟨vv, rfl, v1⟩ : ∃ vv : Int, val = .int vv ∧ 1 ≤ vv := by
      simp only [List.mem_cons, List.not_mem_nil, or_false] at hval
      rcases hval with rfl | rfl | rfl | rfl | rfl | rfl | rfl
      · exact ⟨_, rfl, by decide⟩
      · exact ⟨_, rfl, by decide⟩
      · exact ⟨_, rfl, by decide⟩
      · exact ⟨_, rfl, by decide⟩
      · exact ⟨_, rfl, by omega⟩
      · exact ⟨_, rfl, by omega⟩
      · exact ⟨_, rfl, by omega⟩
    have hz : (dicT t).length < sizeLine := Nat.lt_of_le_of_lt (by rw [dicT, List.length_map]; simp only [ups, List.length_map, List.length_range] at hi; omega : (dicT t).length ≤ 1000000) (by decide)
    simp only [o_slot_sh, o_slot_own, o_var, o_c, o_op, o_un, o_nil, o_cons, o_consB, o_star, o_items_l, o_items_t, o_tup, o_lst, o_call, o_if, o_blOf, o_andV, o_orV, o_notV, o_test, o_and, o_or, o_not, o_truth, o_yes, o_chain, o_own, o_pos, o_kw, o_asObj, o_meth, o_cm, o_prop, o_sl, o_nth, o_make, o_tagO_t, o_tagO_f, o_slice, o_no, o_so, o_intOf, o_isi, o_fmt, o_js_nil, o_js_cons, o_m1, o_call1, o_next, o_seq, o_break, o_cont, o_ret, o_retN, o_drop, o_ifS, o_set, o_asg, o_put_p, o_put_f, o_put_b, o_leak_p, o_leak_f, o_leak_b, o_for, o_loop_nil, o_gN, o_gT, o_gL, o_gsNil, o_gsCons, o_any, o_enum, o_range1, o_range2, o_lc, o_lcL_nil, o_rev, o_turn, o_ownIn, o_sWr, o_sPut, o_sNever, o_kd_nx, o_kd_rt, o_kd_ex, o_frOf_p, o_frOf_f, o_frOf_b, List.getElem?_cons_zero, List.getElem?_cons_succ, List.map_cons, List.map_nil, List.cons_append, List.nil_append, List.append_nil, List.length_cons, List.length_nil, List.set_cons_zero, List.set_cons_succ, List.replicate, Nat.sub_self, Nat.zero_add, Nat.reduceAdd, Nat.reduceSub, if_true, if_false, Bool.false_eq_true, Bool.not_true, Bool.not_false, true_and, and_true, reduceIte, startE, frz, frz1, wipeE, Option.some.injEq, Sl.sh.injEq, Sl.own.injEq, o_nilT, o_consT, o_par, setD, unB, o_aug, o_augI, o_hN, o_hSub, o_hsNil, o_hsCons, o_hT, o_asgH, o_wrPop, o_dic, o_asT, v_asT_z, v_asT_t, v_asT_i, v_asT_l, o_methR, o_opR, o_ni, ownIn, putAt, toKey]
    refine ⟨_, rfl, hz, ?_⟩
    rw [putS nd]
    exact next _ ⟨_, _, _, _, _, rfl, .sh, .sh, .sh, .sh, setT_nodup nd _ _, by have := setT_len t dg vv; omega, .inr (setT_ne _ _ _), setT_all bd ⟨dg1, dg2, v1⟩⟩
  · obtain ⟨t, s2, s3, s4, s5, rfl, m2, m3, m4, m5, nd, tl, tn, bd⟩ := h
    have fz : frz [5, 1] [.sh .ptr, .own (.dic (dicT t)), s2, s3, s4, s5] = [.sh .ptr, .sh (.dic (dicT t)), s2, s3, s4, s5] := by
      rcases m5 with rfl | ⟨_, rfl⟩ <;> rfl
    have ek : keysD (dicT t) = (t.map (·.1)).map D.int := by
      unfold keysD dicT
      rw [List.map_map, List.map_map]; rfl
    have tl' : t.length ≤ 10 := by
      simp only [ups, List.length_map, List.length_range] at tl
      omega
    have hz : t.length ≤ sizeLine := small_line (by omega)
    simp only [o_slot_sh, o_slot_own, o_var, o_c, o_op, o_un, o_nil, o_cons, o_consB, o_star, o_items_l, o_items_t, o_tup, o_lst, o_call, o_if, o_blOf, o_andV, o_orV, o_notV, o_test, o_and, o_or, o_not, o_truth, o_yes, o_chain, o_own, o_pos, o_kw, o_asObj, o_meth, o_cm, o_prop, o_sl, o_nth, o_make, o_tagO_t, o_tagO_f, o_slice, o_no, o_so, o_intOf, o_isi, o_fmt, o_js_nil, o_js_cons, o_m1, o_call1, o_next, o_seq, o_break, o_cont, o_ret, o_retN, o_drop, o_ifS, o_set, o_asg, o_put_p, o_put_f, o_put_b, o_leak_p, o_leak_f, o_leak_b, o_for, o_loop_nil, o_gN, o_gT, o_gL, o_gsNil, o_gsCons, o_any, o_enum, o_range1, o_range2, o_lc, o_lcL_nil, o_rev, o_turn, o_ownIn, o_sWr, o_sPut, o_sNever, o_kd_nx, o_kd_rt, o_kd_ex, o_frOf_p, o_frOf_f, o_frOf_b, List.getElem?_cons_zero, List.getElem?_cons_succ, List.map_cons, List.map_nil, List.cons_append, List.nil_append, List.append_nil, List.length_cons, List.length_nil, List.set_cons_zero, List.set_cons_succ, List.replicate, Nat.sub_self, Nat.zero_add, Nat.reduceAdd, Nat.reduceSub, if_true, if_false, Bool.false_eq_true, Bool.not_true, Bool.not_false, true_and, and_true, reduceIte, startE, Option.some.injEq, Sl.sh.injEq, Sl.own.injEq, o_nilT, o_consT, o_par, setD, unB, o_aug, o_augI, o_hN, o_hSub, o_hsNil, o_hsCons, o_hT, o_asgH, o_wrPop, o_dic, o_asT, v_asT_z, v_asT_t, v_asT_i, v_asT_l, o_methR, o_opR, o_ni, fList, fz, ek, wipeE, List.map_map, List.length_map, hz]
    refine lcL_map (D.int ∘ fun x : Int × Int => x.1) (fun p : Int × Int => pD (p.1, min (10 ^ 30) p.2)) (fun p hp R hR => ?_) ?_
    · have hv : valD (dicT t) (.inl p.1) = some (.int p.2) := by rw [valD_T, lookT_get nd hp]; rfl
      have hx : ∀ k : D → Tag → Prop, fIxA (.dic (dicT t)) (.int p.1) k = k (.int p.2) .p := fun k => propext ⟨fun ⟨key, z, e1, e2, q⟩ => by cases e1; rw [hv] at e2; cases e2; exact q, fun q => ⟨_, _, rfl, hv, q⟩⟩
      simp only [o_slot_sh, o_slot_own, o_var, o_c, o_op, o_un, o_nil, o_cons, o_consB, o_star, o_items_l, o_items_t, o_tup, o_lst, o_call, o_if, o_blOf, o_andV, o_orV, o_notV, o_test, o_and, o_or, o_not, o_truth, o_yes, o_chain, o_own, o_pos, o_kw, o_asObj, o_meth, o_cm, o_prop, o_sl, o_nth, o_make, o_tagO_t, o_tagO_f, o_slice, o_no, o_so, o_intOf, o_isi, o_fmt, o_js_nil, o_js_cons, o_m1, o_call1, o_next, o_seq, o_break, o_cont, o_ret, o_retN, o_drop, o_ifS, o_set, o_asg, o_put_p, o_put_f, o_put_b, o_leak_p, o_leak_f, o_leak_b, o_for, o_loop_nil, o_gN, o_gT, o_gL, o_gsNil, o_gsCons, o_any, o_enum, o_range1, o_range2, o_lc, o_lcL_nil, o_rev, o_turn, o_ownIn, o_sWr, o_sPut, o_sNever, o_kd_nx, o_kd_rt, o_kd_ex, o_frOf_p, o_frOf_f, o_frOf_b, List.getElem?_cons_zero, List.getElem?_cons_succ, List.map_cons, List.map_nil, List.cons_append, List.nil_append, List.append_nil, List.length_cons, List.length_nil, List.set_cons_zero, List.set_cons_succ, List.replicate, Nat.sub_self, Nat.zero_add, Nat.reduceAdd, Nat.reduceSub, if_true, if_false, Bool.false_eq_true, Bool.not_true, Bool.not_false, true_and, and_true, reduceIte, startE, frz, frz1, wipeE, Option.some.injEq, Sl.sh.injEq, Sl.own.injEq, o_nilT, o_consT, o_par, setD, unB, o_aug, o_augI, o_hN, o_hSub, o_hsNil, o_hsCons, o_hT, o_asgH, o_wrPop, o_dic, o_asT, v_asT_z, v_asT_t, v_asT_i, v_asT_l, o_methR, o_opR, o_ni, Function.comp, hx, z2, v_p30, fMin, Nat.reduceLT, Nat.lt_add_one]
      exact hR
    · simp only [o_slot_sh, o_slot_own, o_var, o_c, o_op, o_un, o_nil, o_cons, o_consB, o_star, o_items_l, o_items_t, o_tup, o_lst, o_call, o_if, o_blOf, o_andV, o_orV, o_notV, o_test, o_and, o_or, o_not, o_truth, o_yes, o_chain, o_own, o_pos, o_kw, o_asObj, o_meth, o_cm, o_prop, o_sl, o_nth, o_make, o_tagO_t, o_tagO_f, o_slice, o_no, o_so, o_intOf, o_isi, o_fmt, o_js_nil, o_js_cons, o_m1, o_call1, o_next, o_seq, o_break, o_cont, o_ret, o_retN, o_drop, o_ifS, o_set, o_asg, o_put_p, o_put_f, o_put_b, o_leak_p, o_leak_f, o_leak_b, o_for, o_loop_nil, o_gN, o_gT, o_gL, o_gsNil, o_gsCons, o_any, o_enum, o_range1, o_range2, o_lc, o_lcL_nil, o_rev, o_turn, o_ownIn, o_sWr, o_sPut, o_sNever, o_kd_nx, o_kd_rt, o_kd_ex, o_frOf_p, o_frOf_f, o_frOf_b, List.getElem?_cons_zero, List.getElem?_cons_succ, List.map_cons, List.map_nil, List.cons_append, List.nil_append, List.append_nil, List.length_cons, List.length_nil, List.set_cons_zero, List.set_cons_succ, List.replicate, Nat.sub_self, Nat.zero_add, Nat.reduceAdd, Nat.reduceSub, if_true, if_false, Bool.false_eq_true, Bool.not_true, Bool.not_false, true_and, and_true, reduceIte, startE, frz, frz1, wipeE, Option.some.injEq, Sl.sh.injEq, Sl.own.injEq, o_nilT, o_consT, o_par, setD, unB, o_aug, o_augI, o_hN, o_hSub, o_hsNil, o_hsCons, o_hT, o_asgH, o_wrPop, o_dic, o_asT, v_asT_z, v_asT_t, v_asT_i, v_asT_l, o_methR, o_opR, o_ni, sp__law_tidy]
      refine ⟨t.map fun p => (p.1, min (10 ^ 30) p.2), .inl (by rw [List.map_map]; rfl), by rw [List.length_map]; omega, ?_⟩
      refine q _ (good_tidy ?_ ?_ ?_)
      all_goals
        rw [tabL_same (by rw [List.map_map]; exact nd)]
      · intro z hz
        obtain ⟨p, hp, rfl⟩ := List.mem_map.mp hz
        obtain ⟨b1, b2, b3⟩ := bd p hp
        exact ⟨b1, b2, by show 0 ≤ min _ _; omega, by show min _ _ ≤ _; omega⟩
      · rcases tn with tn | tn
        · simp only [ups, List.length_map, List.length_range] at tn
          omega
        · obtain ⟨p, hp⟩ := List.exists_mem_of_ne_nil _ tn
          obtain ⟨b1, b2, b3⟩ := bd p hp
          exact ⟨_, List.mem_map_of_mem hp, by show 0 < min _ _; omega⟩
      · rw [List.length_map]; exact tl'

theorem digit_in {c : Nat} (h : 48 ≤ c ∧ c ≤ 57) : (Builtin.Str.occurrences ("0123456789" : Str) (⟨#[c]⟩ : Str) 0 ("0123456789" : Str).length 1).isEmpty = false := by
  have : c = 48 ∨ c = 49 ∨ c = 50 ∨ c = 51 ∨ c = 52 ∨ c = 53 ∨ c = 54 ∨ c = 55 ∨ c = 56 ∨ c = 57 := by omega
  rcases this with rfl | rfl | rfl | rfl | rfl | rfl | rfl | rfl | rfl | rfl <;> decide +kernel
theorem numS_ne (i : Int) : (numS i == ("" : Str)) = false := by
  have e : ("" : Str) = SX.S [] := rfl
  rw [numS, e, SX.S_beq]
  cases h : TL.numL i.toNat with
  | nil => exact (TL.numL_ne _ h).elim
  | cons => rfl
def sp_written_count : Sps := fun ds Qd _ => ∃ i : Int, ds = [.str (numS i)] ∧ 0 ≤ i ∧ i < 10 ^ 32 ∧ Qd (.int i) false
def r_written_count (T : Tx) : RS :=
  (sSeq (sIf (dOr (dTest (dOp fEq (dVar 0) (dC (.str "")))) (dOr (dTest (dOp fGt (dCall fLen (dConsB (dVar 0) dNil)) (dC (.int 4000)))) (dNot (dTruth (dCall fAll (dConsB (dLc (iAny (dVar 0)) [] [1] (gN 1) dYes (dOp (fInA fun b => b) (dVar 1) (dC (.str "0123456789")))) dNil)))))) (sSeq (sRet (dC .non)) sNext) sNext) (sSeq (sRet (dIf (dTest (dOp fEq (dCall fStr (dConsB (dCall fInt (dConsB (dVar 0) dNil)) dNil)) (dVar 0))) (dCall fInt (dConsB (dVar 0) dNil)) (dC .non))) sNext))
theorem pure_written_count (T : Tx) : ∀ ds Qd xd, ds.length = 1 → sp_written_count ds Qd xd → r_written_count T (kdOf Qd xd) (startE (["word", "sign"] : List Str) ds) := by
  rintro _ Qd xd _ ⟨i, rfl, h1, h2, q⟩
  have hl := numS_len h1 h2
  have e0 := okEq_s (strOk_num i)
  have e1 := okEq_s (x := "") (by decide +kernel)
  have ei := intText_num h1 h2
  have es := numS_eq h1
  have el := log_ok h1 (Int.lt_trans h2 (by decide))
  have sl : (signs (numS i)).length = (numS i).length := by simp [signs, Str.length]
  have hz : (numS i).length ≤ sizeLine := small_line (by omega)
  have h4 : ¬ (4000 < ((numS i).length : Int)) := by omega
  have lc : ∀ k : List D → Prop, k ((signs (numS i)).map fun _ => .bl true) → lcL [1] [Sl.sh (.str (numS i)), Sl.no] (gN 1) dYes (dOp (fInA fun b => b) (dVar 1) (dC (.str "0123456789"))) (signs (numS i)) [] k := fun k hk => by
    refine lcL_yes (fun _ => .bl true) (fun d hd R hR => ?_) (by simpa using hk)
    unfold signs at hd
    obtain ⟨c, hc, rfl⟩ := List.mem_map.mp hd
    have := digit_in (TL.numL_digits _ c hc)
    simpa [wipeE, fInA, fIn, this] using hR
  simp [r_written_count, startE, fEq, e0, e1, numS_ne, fLen, fOrd, hz, h4, sl, frz, frz1, wipeE]
  refine lc _ ?_
  refine ⟨(signs (numS i)).map fun _ => true, by simp, ?_⟩
  have all : ((signs (numS i)).map fun _ => true).all id = true := by simp
  rw [all]
  have es' : Str.ofString i.repr = numS i := es
  have h640 : (numS i).length ≤ 640 := by omega
  simpa [truth, fInt, fStr, ei, el, es', e0, h640] using q

/-- is it an integer, of what is known what it is -/
def intQ : D → Option Bool
  | .int _ => some true
  | .bl _ => some false
  | .non => some false
  | .str _ => some false
  | .tup _ => some false
  | .lst _ => some false
  | .dic _ => some false
  | .obj _ _ => some false
  | _ => none
def sp_is_integer : Sps := fun ds Qd _ => ∃ d b, ds = [d] ∧ intQ d = some b ∧ Qd (.bl b) false
def r_is_integer (T : Tx) : RS :=
  (sSeq (sRet (dAndV (dIsi (kindD bInt noOb) (dVar 0)) (dNotV (dIsi (kindD bBool noOb) (dVar 0))))) sNext)
theorem pure_is_integer (T : Tx) : ∀ ds Qd xd, ds.length = 1 → sp_is_integer ds Qd xd → r_is_integer T (kdOf Qd xd) (startE (["value"] : List Str) ds) := by
  rintro _ Qd xd _ ⟨d, b, rfl, hb, q⟩
  cases d <;> cases hb <;> simpa [r_is_integer, startE, kindD] using q

def cntQ : D → Option Bool
  | .int i => some (decide (0 ≤ i))
  | d => intQ d
def sp_is_count : Sps := fun ds Qd _ => ∃ d b, ds = [d] ∧ cntQ d = some b ∧ Qd (.bl b) false
def r_is_count (T : Tx) : RS :=
  (sSeq (sRet (dAndV (dOwn 1 sp_is_integer (dPos 1 (dCons (dVar 0) dNil))) (dOp fGe (dVar 0) (dC (.int 0))))) sNext)
theorem pure_is_count (T : Tx) : ∀ ds Qd xd, ds.length = 1 → sp_is_count ds Qd xd → r_is_count T (kdOf Qd xd) (startE (["value"] : List Str) ds) := by
  rintro _ Qd xd _ ⟨d, b, rfl, hb, q⟩
  cases d <;> cases hb <;> simpa [r_is_count, startE, sp_is_integer, intQ, fOrd] using q

instance instKindOk (p : Int × Int) : Decidable (KindOk p) := inferInstanceAs (Decidable (0 ≤ p.1 ∧ p.1 ≤ 10 ^ 31 ∧ 1 ≤ p.2 ∧ p.2 ≤ 10 ^ 30))
def kindQ (p : Int × Int) (b : Option Int) : Bool := decide (KindOk p) && (match b with | none => true | some x => decide (p.1 < x))
def sp_is_kind : Sps := fun ds Qd _ => ∃ p b e, ds = [pD p, e] ∧ (b = none ∧ e = .non ∨ ∃ q, b = some q.1 ∧ e = pD q) ∧ Qd (.bl (kindQ p b)) false
def r_is_kind (T : Tx) : RS :=
  (sSeq (sIf (dOr (dNot (dTruth (dIsi (kindD bTup noOb) (dVar 0)))) (dOr (dTest (dOp fNe (dCall fLen (dConsB (dVar 0) dNil)) (dC (.int 2)))) (dOr (dNot (dTruth (dOwn 1 sp_is_count (dPos 1 (dCons (dOp fIxA (dVar 0) (dC (.int 0))) dNil))))) (dTest (dOp fGt (dOp fIxA (dVar 0) (dC (.int 0))) (dC (.int 10000000000000000000000000000000))))))) (sSeq (sRet (dC (.bl false))) sNext) sNext) (sSeq (sIf (dOr (dNot (dTruth (dOwn 1 sp_is_integer (dPos 1 (dCons (dOp fIxA (dVar 0) (dC (.int 1))) dNil))))) (dNot (dTest (dChain fLe fLe (dC (.int 1)) (dOp fIxA (dVar 0) (dC (.int 1))) (dC (.int 1000000000000000000000000000000)))))) (sSeq (sRet (dC (.bl false))) sNext) sNext) (sSeq (sRet (dOrV (dOp (fIsN fun b => b) (dVar 1) (dC .non)) (dOp fLt (dOp fIxA (dVar 0) (dC (.int 0))) (dOp fIxA (dVar 1) (dC (.int 0)))))) sNext)))
theorem pure_is_kind (T : Tx) : ∀ ds Qd xd, ds.length = 2 → sp_is_kind ds Qd xd → r_is_kind T (kdOf Qd xd) (startE (["value", "before"] : List Str) ds) := by
  rintro _ Qd xd _ ⟨p, b, e, rfl, hb, q⟩
  have h22 : (((2 : Nat) : Int) == (2 : Int)) = true := rfl
  simp only [r_is_kind, o_slot_sh, o_slot_own, o_var, o_c, o_op, o_un, o_nil, o_cons, o_consB, o_star, o_items_l, o_items_t, o_tup, o_lst, o_call, o_if, o_blOf, o_andV, o_orV, o_notV, o_test, o_and, o_or, o_not, o_truth, o_yes, o_chain, o_own, o_pos, o_kw, o_asObj, o_meth, o_cm, o_prop, o_sl, o_nth, o_make, o_tagO_t, o_tagO_f, o_slice, o_no, o_so, o_intOf, o_isi, o_fmt, o_js_nil, o_js_cons, o_m1, o_call1, o_next, o_seq, o_break, o_cont, o_ret, o_retN, o_drop, o_ifS, o_set, o_asg, o_put_p, o_put_f, o_put_b, o_leak_p, o_leak_f, o_leak_b, o_for, o_loop_nil, o_gN, o_gT, o_gL, o_gsNil, o_gsCons, o_any, o_enum, o_range1, o_range2, o_lc, o_lcL_nil, o_rev, o_turn, o_ownIn, o_sWr, o_sPut, o_sNever, o_kd_nx, o_kd_rt, o_kd_ex, o_frOf_p, o_frOf_f, o_frOf_b, List.getElem?_cons_zero, List.getElem?_cons_succ, List.map_cons, List.map_nil, List.cons_append, List.nil_append, List.append_nil, List.length_cons, List.length_nil, List.set_cons_zero, List.set_cons_succ, List.replicate, Nat.sub_self, Nat.zero_add, Nat.reduceAdd, Nat.reduceSub, if_true, if_false, Bool.false_eq_true, Bool.not_true, Bool.not_false, true_and, and_true, reduceIte, startE, frz, frz1, wipeE, Option.some.injEq, Sl.sh.injEq, Sl.own.injEq, o_nilT, o_consT, o_par, setD, unB, o_aug, o_augI, o_hN, o_hSub, o_hsNil, o_hsCons, o_hT, o_asgH, o_wrPop, o_dic, o_asT, v_asT_z, v_asT_t, v_asT_i, v_asT_l, o_methR, o_opR, o_ni, pD, kindD, exists_eq_left', v_truth_b, v_lent, v_nei, List.cons.injEq, sp_is_count, sp_is_integer, v_ixt0, v_ixt1, v_ord, v_is, cntQ, intQ, h22]
  refine ⟨_, _, rfl, rfl, ?_⟩
  by_cases c1 : 0 ≤ p.1
  case neg =>
    have : kindQ p b = false := by simp [kindQ, KindOk, c1]
    rw [this] at q
    simpa [c1] using q
  by_cases c2 : p.1 ≤ 10 ^ 31
  case neg =>
    have : kindQ p b = false := by simp only [kindQ, KindOk, c2, and_false, false_and, decide_false, Bool.false_and]
    rw [this] at q
    have c2' : (10000000000000000000000000000000 : Int) < p.1 := by omega
    simpa [c1, c2'] using q
  have c2' : ¬ (10000000000000000000000000000000 : Int) < p.1 := by omega
  simp only [c1, c2', decide_true, decide_false, o_slot_sh, o_slot_own, o_var, o_c, o_op, o_un, o_nil, o_cons, o_consB, o_star, o_items_l, o_items_t, o_tup, o_lst, o_call, o_if, o_blOf, o_andV, o_orV, o_notV, o_test, o_and, o_or, o_not, o_truth, o_yes, o_chain, o_own, o_pos, o_kw, o_asObj, o_meth, o_cm, o_prop, o_sl, o_nth, o_make, o_tagO_t, o_tagO_f, o_slice, o_no, o_so, o_intOf, o_isi, o_fmt, o_js_nil, o_js_cons, o_m1, o_call1, o_next, o_seq, o_break, o_cont, o_ret, o_retN, o_drop, o_ifS, o_set, o_asg, o_put_p, o_put_f, o_put_b, o_leak_p, o_leak_f, o_leak_b, o_for, o_loop_nil, o_gN, o_gT, o_gL, o_gsNil, o_gsCons, o_any, o_enum, o_range1, o_range2, o_lc, o_lcL_nil, o_rev, o_turn, o_ownIn, o_sWr, o_sPut, o_sNever, o_kd_nx, o_kd_rt, o_kd_ex, o_frOf_p, o_frOf_f, o_frOf_b, List.getElem?_cons_zero, List.getElem?_cons_succ, List.map_cons, List.map_nil, List.cons_append, List.nil_append, List.append_nil, List.length_cons, List.length_nil, List.set_cons_zero, List.set_cons_succ, List.replicate, Nat.sub_self, Nat.zero_add, Nat.reduceAdd, Nat.reduceSub, if_true, if_false, Bool.false_eq_true, Bool.not_true, Bool.not_false, true_and, and_true, reduceIte, startE, frz, frz1, wipeE, Option.some.injEq, Sl.sh.injEq, Sl.own.injEq, o_nilT, o_consT, o_par, setD, unB, o_aug, o_augI, o_hN, o_hSub, o_hsNil, o_hsCons, o_hT, o_asgH, o_wrPop, o_dic, o_asT, v_asT_z, v_asT_t, v_asT_i, v_asT_l, o_methR, o_opR, o_ni]
  refine ⟨_, _, rfl, rfl, ?_⟩
  by_cases c3 : 1 ≤ p.2
  case neg =>
    have : kindQ p b = false := by simp [kindQ, KindOk, c3]
    rw [this] at q
    simpa [c3] using q
  by_cases c4 : p.2 ≤ 10 ^ 30
  case neg =>
    have : kindQ p b = false := by simp only [kindQ, KindOk, c4, and_false, decide_false, Bool.false_and]
    rw [this] at q
    have c4' : ¬ p.2 ≤ (1000000000000000000000000000000 : Int) := by omega
    simpa [c3, c4'] using q
  have c4' : p.2 ≤ (1000000000000000000000000000000 : Int) := by omega
  have ok : decide (KindOk p) = true := decide_eq_true ⟨c1, c2, c3, c4⟩
  rcases hb with ⟨rfl, rfl⟩ | ⟨z, rfl, rfl⟩
  · have : kindQ p none = true := by simp [kindQ, ok]
    rw [this] at q
    simpa [c3, c4'] using q
  · have : kindQ p (some z.1) = decide (p.1 < z.1) := by simp [kindQ, ok]
    rw [this] at q
    simpa [c3, c4', pD] using q

def sp_text_kind : Sps := fun ds Qd _ => ∃ p : Int × Int, ds = [.str (lineS p)] ∧ KindOk p ∧ Qd (pD p) false
def r_text_kind (T : Tx) : RS :=
  (sSeq (sSet 1 (dM1 mSplit (dVar 0) (dC (.str " ")))) (sSeq (sIf (dOr (dTest (dOp fNe (dCall fLen (dConsB (dVar 1) dNil)) (dC (.int 3)))) (dTest (dOp fNe (dOp fIxA (dVar 1) (dC (.int 1))) (dC (.str "x"))))) (sSeq (sRet (dC .non)) sNext) sNext) (sSeq (sSet 2 (dTup (dCons (dOwn 1 sp_written_count (dPos 1 (dCons (dOp fIxA (dVar 1) (dC (.int 0))) dNil))) (dCons (dOwn 1 sp_written_count (dPos 1 (dCons (dOp fIxA (dVar 1) (dC (.int 2))) dNil))) dNil)))) (sSeq (sRet (dIf (dAnd (dTest (dOp (fInA not) (dC .non) (dVar 2))) (dTruth (dOwn 2 sp_is_kind (dPos 2 (dCons (dVar 2) (dCons (dC .non) dNil)))))) (dVar 2) (dC .non))) sNext))))
theorem pure_text_kind (T : Tx) : ∀ ds Qd xd, ds.length = 1 → sp_text_kind ds Qd xd → r_text_kind T (kdOf Qd xd) (startE (["line", "words", "kind"] : List Str) ds) := by
  rintro _ Qd xd _ ⟨p, rfl, hp, q⟩
  have hl : (lineS p).length + 2 ≤ sizeLine := small_line (by have := lineS_len hp; omega)
  have e1 : ((" " : Str).length == 0) = false := rfl
  have ex : PyData.strOk ("x" : Str) = true := by decide +kernel
  have h3 : (((3 : Nat) : Int) == (3 : Int)) = true := rfl
  have h2 : (2 : Nat) ≤ sizeLine := by decide
  have xx : (("x" : Str) == ("x" : Str)) = true := by decide +kernel
  obtain ⟨a1, a2, a3, a4⟩ := id hp
  have nn : okEq (.tup [.int p.1, .int p.2]) := okEq_of (tame_p hp) (Nat.le_of_lt_succ (by decide : 1 < 61))
  have kq : kindQ p none = true := by simp [kindQ, hp]
  simp only [r_text_kind, o_slot_sh, o_slot_own, o_var, o_c, o_op, o_un, o_nil, o_cons, o_consB, o_star, o_items_l, o_items_t, o_tup, o_lst, o_call, o_if, o_blOf, o_andV, o_orV, o_notV, o_test, o_and, o_or, o_not, o_truth, o_yes, o_chain, o_own, o_pos, o_kw, o_asObj, o_meth, o_cm, o_prop, o_sl, o_nth, o_make, o_tagO_t, o_tagO_f, o_slice, o_no, o_so, o_intOf, o_isi, o_fmt, o_js_nil, o_js_cons, o_m1, o_call1, o_next, o_seq, o_break, o_cont, o_ret, o_retN, o_drop, o_ifS, o_set, o_asg, o_put_p, o_put_f, o_put_b, o_leak_p, o_leak_f, o_leak_b, o_for, o_loop_nil, o_gN, o_gT, o_gL, o_gsNil, o_gsCons, o_any, o_enum, o_range1, o_range2, o_lc, o_lcL_nil, o_rev, o_turn, o_ownIn, o_sWr, o_sPut, o_sNever, o_kd_nx, o_kd_rt, o_kd_ex, o_frOf_p, o_frOf_f, o_frOf_b, List.getElem?_cons_zero, List.getElem?_cons_succ, List.map_cons, List.map_nil, List.cons_append, List.nil_append, List.append_nil, List.length_cons, List.length_nil, List.set_cons_zero, List.set_cons_succ, List.replicate, Nat.sub_self, Nat.zero_add, Nat.reduceAdd, Nat.reduceSub, if_true, if_false, Bool.false_eq_true, Bool.not_true, Bool.not_false, true_and, and_true, reduceIte, startE, frz, frz1, wipeE, Option.some.injEq, Sl.sh.injEq, Sl.own.injEq, o_nilT, o_consT, o_par, setD, unB, o_aug, o_augI, o_hN, o_hSub, o_hsNil, o_hsCons, o_hT, o_asgH, o_wrPop, o_dic, o_asT, v_asT_z, v_asT_t, v_asT_i, v_asT_l, o_methR, o_opR, o_ni, v_split, v_strD, e1, hl, split_line, v_lenl, v_nei, h3, v_ixl0, v_ixl1, v_ixl2, v_nes ex ex, xx, h2, exists_eq_left', List.cons.injEq, D.str.injEq, sp_written_count, sp_is_kind]
  refine ⟨p.1, rfl, a1, by omega, ?_⟩
  refine ⟨p.2, rfl, by omega, by omega, ?_⟩
  simp only [o_slot_sh, o_slot_own, o_var, o_c, o_op, o_un, o_nil, o_cons, o_consB, o_star, o_items_l, o_items_t, o_tup, o_lst, o_call, o_if, o_blOf, o_andV, o_orV, o_notV, o_test, o_and, o_or, o_not, o_truth, o_yes, o_chain, o_own, o_pos, o_kw, o_asObj, o_meth, o_cm, o_prop, o_sl, o_nth, o_make, o_tagO_t, o_tagO_f, o_slice, o_no, o_so, o_intOf, o_isi, o_fmt, o_js_nil, o_js_cons, o_m1, o_call1, o_next, o_seq, o_break, o_cont, o_ret, o_retN, o_drop, o_ifS, o_set, o_asg, o_put_p, o_put_f, o_put_b, o_leak_p, o_leak_f, o_leak_b, o_for, o_loop_nil, o_gN, o_gT, o_gL, o_gsNil, o_gsCons, o_any, o_enum, o_range1, o_range2, o_lc, o_lcL_nil, o_rev, o_turn, o_ownIn, o_sWr, o_sPut, o_sNever, o_kd_nx, o_kd_rt, o_kd_ex, o_frOf_p, o_frOf_f, o_frOf_b, List.getElem?_cons_zero, List.getElem?_cons_succ, List.map_cons, List.map_nil, List.cons_append, List.nil_append, List.append_nil, List.length_cons, List.length_nil, List.set_cons_zero, List.set_cons_succ, List.replicate, Nat.sub_self, Nat.zero_add, Nat.reduceAdd, Nat.reduceSub, if_true, if_false, Bool.false_eq_true, Bool.not_true, Bool.not_false, true_and, and_true, reduceIte, startE, frz, frz1, wipeE, Option.some.injEq, Sl.sh.injEq, Sl.own.injEq, o_nilT, o_consT, o_par, setD, unB, o_aug, o_augI, o_hN, o_hSub, o_hsNil, o_hsCons, o_hT, o_asgH, o_wrPop, o_dic, o_asT, v_asT_z, v_asT_t, v_asT_i, v_asT_l, o_methR, o_opR, o_ni, h2, fInA, fIn, okEq_n, nn, List.any_cons, List.any_nil, eqD_in, Bool.or_false, v_truth_b]
  refine ⟨p, none, .non, ⟨rfl, rfl⟩, .inl ⟨rfl, rfl⟩, ?_⟩
  rw [kq]
  simpa [pD] using q

def sp_wrong_kind : Sps := fun ds Qd _ => ∃ l, ds = [kD l] ∧ GoodK l ∧ Qd .non false
theorem numbered_cons (i : Nat) (d : D) (ds : List D) : (d :: ds).zipIdx i = (d, i) :: ds.zipIdx (i + 1) := rfl
def r_wrong_kind (T : Tx) : RS :=
  (sSeq (sIf (dOr (dNot (dTruth (dIsi (kindD bTup noOb) (dVar 0)))) (dTest (dOp fEq (dCall fLen (dConsB (dVar 0) dNil)) (dC (.int 0))))) (sSeq (sRet (dUn fNeg (dC (.int 1)))) sNext) sNext) (sSeq (sFor (iEnumD (dVar 0)) (gT 2 (gsCons (gN 1) (gsCons (gN 2) gsNil))) (sSeq (sIf (dOr (dTest (dOp fEq (dVar 1) (dC (.int 10)))) (dNot (dTruth (dOwn 2 sp_is_kind (dPos 2 (dCons (dVar 2) (dCons (dIf (dTest (dOp fEq (dVar 1) (dC (.int 0)))) (dC .non) (dOp fIxA (dVar 0) (dOp fSub (dVar 1) (dC (.int 1))))) dNil))))))) (sSeq (sRet (dVar 1)) sNext) sNext) sNext)) (sSeq (sRet (dC .non)) sNext)))
theorem pure_wrong_kind (T : Tx) : ∀ ds Qd xd, ds.length = 1 → sp_wrong_kind ds Qd xd → r_wrong_kind T (kdOf Qd xd) (startE (["value", "at", "kind"] : List Str) ds) := by
  rintro _ Qd xd _ ⟨l, rfl, hl, q⟩
  have h0 : (((l.map pD).length : Int) == 0) = false := by
    have := hl.ne
    cases l with
    | nil => exact (this rfl).elim
    | cons p l => simp only [List.map_cons, List.length_cons]; exact beq_eq_false_iff_ne.mpr (by omega)
  simp only [r_wrong_kind, o_slot_sh, o_slot_own, o_var, o_c, o_op, o_un, o_nil, o_cons, o_consB, o_star, o_items_l, o_items_t, o_tup, o_lst, o_call, o_if, o_blOf, o_andV, o_orV, o_notV, o_test, o_and, o_or, o_not, o_truth, o_yes, o_chain, o_own, o_pos, o_kw, o_asObj, o_meth, o_cm, o_prop, o_sl, o_nth, o_make, o_tagO_t, o_tagO_f, o_slice, o_no, o_so, o_intOf, o_isi, o_fmt, o_js_nil, o_js_cons, o_m1, o_call1, o_next, o_seq, o_break, o_cont, o_ret, o_retN, o_drop, o_ifS, o_set, o_asg, o_put_p, o_put_f, o_put_b, o_leak_p, o_leak_f, o_leak_b, o_for, o_loop_nil, o_gN, o_gT, o_gL, o_gsNil, o_gsCons, o_any, o_enum, o_range1, o_range2, o_lc, o_lcL_nil, o_rev, o_turn, o_ownIn, o_sWr, o_sPut, o_sNever, o_kd_nx, o_kd_rt, o_kd_ex, o_frOf_p, o_frOf_f, o_frOf_b, List.getElem?_cons_zero, List.getElem?_cons_succ, List.map_cons, List.map_nil, List.cons_append, List.nil_append, List.append_nil, List.length_cons, List.length_nil, List.set_cons_zero, List.set_cons_succ, List.replicate, Nat.sub_self, Nat.zero_add, Nat.reduceAdd, Nat.reduceSub, if_true, if_false, Bool.false_eq_true, Bool.not_true, Bool.not_false, true_and, and_true, reduceIte, startE, frz, frz1, wipeE, Option.some.injEq, Sl.sh.injEq, Sl.own.injEq, o_nilT, o_consT, o_par, setD, unB, o_aug, o_augI, o_hN, o_hSub, o_hsNil, o_hsCons, o_hT, o_asgH, o_wrPop, o_dic, o_asT, v_asT_z, v_asT_t, v_asT_i, v_asT_l, o_methR, o_opR, o_ni, kD, kindD, exists_eq_left', v_truth_b, v_lent, v_eqi, h0, numbered]
  have go : ∀ (suf pre : List (Int × Int)) (s1 s2 : Sl), l = pre ++ suf → dLoop (gT 2 (gsCons (gN 1) (gsCons (gN 2) gsNil))) (sSeq (sIf (dOr (dTest (dOp fEq (dVar 1) (dC (.int 10)))) (dNot (dTruth (dOwn 2 sp_is_kind (dPos 2 (dCons (dVar 2) (dCons (dIf (dTest (dOp fEq (dVar 1) (dC (.int 0)))) (dC .non) (dOp fIxA (dVar 0) (dOp fSub (dVar 1) (dC (.int 1))))) dNil))))))) (sSeq (sRet (dVar 1)) sNext) sNext) sNext) { nx := fun _ => Qd .non false, rt := fun d g _ => Qd d (frOf g), ex := fun e _ => xd e } (((suf.map pD).zipIdx pre.length).map fun p => D.tup [.int (p.2 : Nat), p.1]) [.sh (.tup (l.map pD)), s1, s2] := by
    intro suf
    induction suf with
    | nil =>
      intro pre s1 s2 e
      exact q
    | cons p suf ih =>
      intro pre s1 s2 e
      have hlen : pre.length < 10 := by
        have := hl.len
        rw [e, List.length_append, List.length_cons] at this
        omega
      have h10 : (((pre.length : Nat) : Int) == 10) = false := beq_eq_false_iff_ne.mpr (by omega)
      have hk : KindOk p := hl.ok p (by rw [e]; simp)
      have next := ih (pre ++ [p]) (.sh (.int (pre.length : Nat))) (.sh (pD p)) (by rw [e]; simp)
      have lp : (pre ++ [p]).length = pre.length + 1 := by simp
      rw [lp] at next
      rw [List.map_cons, numbered_cons]
      simp only [List.map_cons, dLoop, o_slot_sh, o_slot_own, o_var, o_c, o_op, o_un, o_nil, o_cons, o_consB, o_star, o_items_l, o_items_t, o_tup, o_lst, o_call, o_if, o_blOf, o_andV, o_orV, o_notV, o_test, o_and, o_or, o_not, o_truth, o_yes, o_chain, o_own, o_pos, o_kw, o_asObj, o_meth, o_cm, o_prop, o_sl, o_nth, o_make, o_tagO_t, o_tagO_f, o_slice, o_no, o_so, o_intOf, o_isi, o_fmt, o_js_nil, o_js_cons, o_m1, o_call1, o_next, o_seq, o_break, o_cont, o_ret, o_retN, o_drop, o_ifS, o_set, o_asg, o_put_p, o_put_f, o_put_b, o_leak_p, o_leak_f, o_leak_b, o_for, o_loop_nil, o_gN, o_gT, o_gL, o_gsNil, o_gsCons, o_any, o_enum, o_range1, o_range2, o_lc, o_lcL_nil, o_rev, o_turn, o_ownIn, o_sWr, o_sPut, o_sNever, o_kd_nx, o_kd_rt, o_kd_ex, o_frOf_p, o_frOf_f, o_frOf_b, List.getElem?_cons_zero, List.getElem?_cons_succ, List.map_cons, List.map_nil, List.cons_append, List.nil_append, List.append_nil, List.length_cons, List.length_nil, List.set_cons_zero, List.set_cons_succ, List.replicate, Nat.sub_self, Nat.zero_add, Nat.reduceAdd, Nat.reduceSub, if_true, if_false, Bool.false_eq_true, Bool.not_true, Bool.not_false, true_and, and_true, reduceIte, startE, frz, frz1, wipeE, Option.some.injEq, Sl.sh.injEq, Sl.own.injEq, o_nilT, o_consT, o_par, setD, unB, o_aug, o_augI, o_hN, o_hSub, o_hsNil, o_hsCons, o_hT, o_asgH, o_wrPop, o_dic, o_asT, v_asT_z, v_asT_t, v_asT_i, v_asT_l, o_methR, o_opR, o_ni, v_eqi, h10, Nat.lt_add_one, Nat.reduceLT, leak, sp_is_kind, v_subi]
      cases pre with
      | nil =>
        have z : (((0 : Nat) : Int) == 0) = true := rfl
        simp only [List.length_nil, z, o_slot_sh, o_slot_own, o_var, o_c, o_op, o_un, o_nil, o_cons, o_consB, o_star, o_items_l, o_items_t, o_tup, o_lst, o_call, o_if, o_blOf, o_andV, o_orV, o_notV, o_test, o_and, o_or, o_not, o_truth, o_yes, o_chain, o_own, o_pos, o_kw, o_asObj, o_meth, o_cm, o_prop, o_sl, o_nth, o_make, o_tagO_t, o_tagO_f, o_slice, o_no, o_so, o_intOf, o_isi, o_fmt, o_js_nil, o_js_cons, o_m1, o_call1, o_next, o_seq, o_break, o_cont, o_ret, o_retN, o_drop, o_ifS, o_set, o_asg, o_put_p, o_put_f, o_put_b, o_leak_p, o_leak_f, o_leak_b, o_for, o_loop_nil, o_gN, o_gT, o_gL, o_gsNil, o_gsCons, o_any, o_enum, o_range1, o_range2, o_lc, o_lcL_nil, o_rev, o_turn, o_ownIn, o_sWr, o_sPut, o_sNever, o_kd_nx, o_kd_rt, o_kd_ex, o_frOf_p, o_frOf_f, o_frOf_b, List.getElem?_cons_zero, List.getElem?_cons_succ, List.map_cons, List.map_nil, List.cons_append, List.nil_append, List.append_nil, List.length_cons, List.length_nil, List.set_cons_zero, List.set_cons_succ, List.replicate, Nat.sub_self, Nat.zero_add, Nat.reduceAdd, Nat.reduceSub, if_true, if_false, Bool.false_eq_true, Bool.not_true, Bool.not_false, true_and, and_true, reduceIte, startE, frz, frz1, wipeE, Option.some.injEq, Sl.sh.injEq, Sl.own.injEq, o_nilT, o_consT, o_par, setD, unB, o_aug, o_augI, o_hN, o_hSub, o_hsNil, o_hsCons, o_hT, o_asgH, o_wrPop, o_dic, o_asT, v_asT_z, v_asT_t, v_asT_i, v_asT_l, o_methR, o_opR, o_ni]
        refine ⟨p, none, .non, rfl, .inl ⟨rfl, rfl⟩, ?_⟩
        have kq : kindQ p none = true := by simp [kindQ, hk]
        rw [kq]
        simpa using next
      | cons a pre =>
        have z : (((pre.length + 1 : Nat) : Int) == 0) = false := beq_eq_false_iff_ne.mpr (by omega)
        obtain ⟨b, hb⟩ : ∃ b, (a :: pre)[pre.length]? = some b := ⟨_, List.getElem?_eq_getElem (by simp)⟩
        have hb' : l[pre.length]? = some b := by rw [e, List.getElem?_append_left (by simp)]; exact hb
        have hi : (((pre.length + 1 : Nat) : Int) - 1) = ((pre.length : Nat) : Int) := by omega
        have at_ : atI (l.map pD) ((pre.length : Nat) : Int) = some (pD b) := by rw [atI_get, List.getElem?_map, hb']; rfl
        simp only [z, o_slot_sh, o_slot_own, o_var, o_c, o_op, o_un, o_nil, o_cons, o_consB, o_star, o_items_l, o_items_t, o_tup, o_lst, o_call, o_if, o_blOf, o_andV, o_orV, o_notV, o_test, o_and, o_or, o_not, o_truth, o_yes, o_chain, o_own, o_pos, o_kw, o_asObj, o_meth, o_cm, o_prop, o_sl, o_nth, o_make, o_tagO_t, o_tagO_f, o_slice, o_no, o_so, o_intOf, o_isi, o_fmt, o_js_nil, o_js_cons, o_m1, o_call1, o_next, o_seq, o_break, o_cont, o_ret, o_retN, o_drop, o_ifS, o_set, o_asg, o_put_p, o_put_f, o_put_b, o_leak_p, o_leak_f, o_leak_b, o_for, o_loop_nil, o_gN, o_gT, o_gL, o_gsNil, o_gsCons, o_any, o_enum, o_range1, o_range2, o_lc, o_lcL_nil, o_rev, o_turn, o_ownIn, o_sWr, o_sPut, o_sNever, o_kd_nx, o_kd_rt, o_kd_ex, o_frOf_p, o_frOf_f, o_frOf_b, List.getElem?_cons_zero, List.getElem?_cons_succ, List.map_cons, List.map_nil, List.cons_append, List.nil_append, List.append_nil, List.length_cons, List.length_nil, List.set_cons_zero, List.set_cons_succ, List.replicate, Nat.sub_self, Nat.zero_add, Nat.reduceAdd, Nat.reduceSub, if_true, if_false, Bool.false_eq_true, Bool.not_true, Bool.not_false, true_and, and_true, reduceIte, startE, frz, frz1, wipeE, Option.some.injEq, Sl.sh.injEq, Sl.own.injEq, o_nilT, o_consT, o_par, setD, unB, o_aug, o_augI, o_hN, o_hSub, o_hsNil, o_hsCons, o_hT, o_asgH, o_wrPop, o_dic, o_asT, v_asT_z, v_asT_t, v_asT_i, v_asT_l, o_methR, o_opR, o_ni, hi, v_ixt at_]
        refine ⟨p, some b.1, pD b, rfl, .inr ⟨b, rfl, rfl⟩, ?_⟩
        have lt : p.1 < b.1 := by
          have := hl.desc
          rw [e, List.pairwise_append] at this
          exact this.2.2 b (List.mem_of_getElem? hb) p (by simp)
        have kq : kindQ p (some b.1) = true := by simp [kindQ, hk, lt]
        rw [kq]
        simpa using next
  exact go l [] .no .no rfl

def sp_Row___init__ : SpsI := fun ds Qd _ => ∃ l, ds = [kD l] ∧ GoodK l ∧ Qd [kD l]
def r_Row___init__ (T : Tx) : RSI :=
  (iPre (sSet 2 (dOwn 1 sp_wrong_kind (dPos 1 (dCons (dVar 1) dNil)))) (iPre (sIf (dTest (dOp (fIsN not) (dVar 2) (dC .non))) (sSeq sNever sNext) sNext) (fun st acc x ρ => acc.length = 0 ∧ iSt (dVar 1) iEnd st acc x ρ)))
theorem pure_Row___init__ (T : Tx) : ∀ a ds Qd xd, ds.length + 1 = 2 → sp_Row___init__ ds Qd xd → r_Row___init__ T Qd [] (fun e _ => xd e) (startE (["self", "kinds", "at"] : List Str) (.adr a :: ds)) := by
  rintro a _ Qd xd _ ⟨l, rfl, hl, q⟩
  simp only [r_Row___init__, o_slot_sh, o_slot_own, o_var, o_c, o_op, o_un, o_nil, o_cons, o_consB, o_star, o_items_l, o_items_t, o_tup, o_lst, o_call, o_if, o_blOf, o_andV, o_orV, o_notV, o_test, o_and, o_or, o_not, o_truth, o_yes, o_chain, o_own, o_pos, o_kw, o_asObj, o_meth, o_cm, o_prop, o_sl, o_nth, o_make, o_tagO_t, o_tagO_f, o_slice, o_no, o_so, o_intOf, o_isi, o_fmt, o_js_nil, o_js_cons, o_m1, o_call1, o_next, o_seq, o_break, o_cont, o_ret, o_retN, o_drop, o_ifS, o_set, o_asg, o_put_p, o_put_f, o_put_b, o_leak_p, o_leak_f, o_leak_b, o_for, o_loop_nil, o_gN, o_gT, o_gL, o_gsNil, o_gsCons, o_any, o_enum, o_range1, o_range2, o_lc, o_lcL_nil, o_rev, o_turn, o_ownIn, o_sWr, o_sPut, o_sNever, o_kd_nx, o_kd_rt, o_kd_ex, o_frOf_p, o_frOf_f, o_frOf_b, List.getElem?_cons_zero, List.getElem?_cons_succ, List.map_cons, List.map_nil, List.cons_append, List.nil_append, List.append_nil, List.length_cons, List.length_nil, List.set_cons_zero, List.set_cons_succ, List.replicate, Nat.sub_self, Nat.zero_add, Nat.reduceAdd, Nat.reduceSub, if_true, if_false, Bool.false_eq_true, Bool.not_true, Bool.not_false, true_and, and_true, reduceIte, startE, frz, frz1, wipeE, Option.some.injEq, Sl.sh.injEq, Sl.own.injEq, o_nilT, o_consT, o_par, setD, unB, o_aug, o_augI, o_hN, o_hSub, o_hsNil, o_hsCons, o_hT, o_asgH, o_wrPop, o_dic, o_asT, v_asT_z, v_asT_t, v_asT_i, v_asT_l, o_methR, o_opR, o_ni, iPre, sp_wrong_kind]
  refine ⟨l, rfl, hl, ?_⟩
  simp only [o_slot_sh, o_slot_own, o_var, o_c, o_op, o_un, o_nil, o_cons, o_consB, o_star, o_items_l, o_items_t, o_tup, o_lst, o_call, o_if, o_blOf, o_andV, o_orV, o_notV, o_test, o_and, o_or, o_not, o_truth, o_yes, o_chain, o_own, o_pos, o_kw, o_asObj, o_meth, o_cm, o_prop, o_sl, o_nth, o_make, o_tagO_t, o_tagO_f, o_slice, o_no, o_so, o_intOf, o_isi, o_fmt, o_js_nil, o_js_cons, o_m1, o_call1, o_next, o_seq, o_break, o_cont, o_ret, o_retN, o_drop, o_ifS, o_set, o_asg, o_put_p, o_put_f, o_put_b, o_leak_p, o_leak_f, o_leak_b, o_for, o_loop_nil, o_gN, o_gT, o_gL, o_gsNil, o_gsCons, o_any, o_enum, o_range1, o_range2, o_lc, o_lcL_nil, o_rev, o_turn, o_ownIn, o_sWr, o_sPut, o_sNever, o_kd_nx, o_kd_rt, o_kd_ex, o_frOf_p, o_frOf_f, o_frOf_b, List.getElem?_cons_zero, List.getElem?_cons_succ, List.map_cons, List.map_nil, List.cons_append, List.nil_append, List.append_nil, List.length_cons, List.length_nil, List.set_cons_zero, List.set_cons_succ, List.replicate, Nat.sub_self, Nat.zero_add, Nat.reduceAdd, Nat.reduceSub, if_true, if_false, Bool.false_eq_true, Bool.not_true, Bool.not_false, true_and, and_true, reduceIte, startE, frz, frz1, wipeE, Option.some.injEq, Sl.sh.injEq, Sl.own.injEq, o_nilT, o_consT, o_par, setD, unB, o_aug, o_augI, o_hN, o_hSub, o_hsNil, o_hsCons, o_hT, o_asgH, o_wrPop, o_dic, o_asT, v_asT_z, v_asT_t, v_asT_i, v_asT_l, o_methR, o_opR, o_ni, v_is, v_nonN, iSt, iEnd, List.range, List.range.loop]
  exact q

def sp_text_row : Sps := fun ds Qd _ => ∃ l, ds = [.str (textS l)] ∧ GoodK l ∧ Qd (.obj 0 [kD l]) false
def r_text_row (T : Tx) : RS :=
  (sSeq (sIf (dNot (dTruth (dIsi (kindD bStr noOb) (dVar 0)))) (sSeq (sRet (dC .non)) sNext) sNext) (sSeq (sSet 1 (dM1 mSplit (dVar 0) (dC (.str "\n")))) (sSeq (sIf (dOr (dTest (dOp fNe (dOp fIxA (dVar 1) (dC (.int 0))) (dC (.str "row")))) (dNot (dTest (dChain fLe fLe (dC (.int 2)) (dCall fLen (dConsB (dVar 1) dNil)) (dOp fAdd (dC (.int 10)) (dC (.int 1))))))) (sSeq (sRet (dC .non)) sNext) sNext) (sSeq (sSet 2 (dCall fTuple (dConsB (dLc (iAny (dSlice fSlice (dVar 1) (oSo (dC (.int 1))) oNo)) [] [3] (gN 3) dYes (dOwn 1 sp_text_kind (dPos 1 (dCons (dVar 3) dNil)))) dNil))) (sSeq (sRet (dIf (dOr (dTest (dOp (fInA fun b => b) (dC .non) (dVar 2))) (dTest (dOp (fIsN not) (dOwn 1 sp_wrong_kind (dPos 1 (dCons (dVar 2) dNil))) (dC .non)))) (dC .non) (dMake 0 2 sp_Row___init__ (dPos 1 (dCons (dVar 2) dNil))))) sNext)))))
theorem pure_text_row (T : Tx) : ∀ ds Qd xd, ds.length = 1 → sp_text_row ds Qd xd → r_text_row T (kdOf Qd xd) (startE (["value", "lines", "kinds", "line"] : List Str) ds) := by
  rintro _ Qd xd _ ⟨l, rfl, hl, q⟩
  have h1 : (textS l).length + 2 ≤ sizeLine := small_line (by have := textS_len hl; omega)
  have e1 : (("\n" : Str).length == 0) = false := rfl
  have er : PyData.strOk ("row" : Str) = true := by decide +kernel
  have rr : (("row" : Str) == ("row" : Str)) = true := by decide +kernel
  have len : 2 ≤ (l.length : Int) + 1 := by
    have := hl.ne
    cases l with
    | nil => exact (this rfl).elim
    | cons p l => simp only [List.length_cons]; omega
  have len2 : (l.length : Int) + 1 ≤ 10 + 1 := by have := hl.len; omega
  have len3 : l.length ≤ sizeLine := small_line (by have := hl.len; omega)
  have sp : Txt.split (textS l) "\n" = ("row" : Str) :: l.map lineS := by
    rw [split_text, rowL, List.map_cons, List.map_map]; rfl
  have c1 : decide ((2 : Int) ≤ ((l.length + 1 : Nat) : Int)) = true := decide_eq_true (by omega)
  have c2 : decide (((l.length + 1 : Nat) : Int) ≤ 10 + 1) = true := decide_eq_true (by omega)
  simp only [r_text_row, o_slot_sh, o_slot_own, o_var, o_c, o_op, o_un, o_nil, o_cons, o_consB, o_star, o_items_l, o_items_t, o_tup, o_lst, o_call, o_if, o_blOf, o_andV, o_orV, o_notV, o_test, o_and, o_or, o_not, o_truth, o_yes, o_chain, o_own, o_pos, o_kw, o_asObj, o_meth, o_cm, o_prop, o_sl, o_nth, o_make, o_tagO_t, o_tagO_f, o_slice, o_no, o_so, o_intOf, o_isi, o_fmt, o_js_nil, o_js_cons, o_m1, o_call1, o_next, o_seq, o_break, o_cont, o_ret, o_retN, o_drop, o_ifS, o_set, o_asg, o_put_p, o_put_f, o_put_b, o_leak_p, o_leak_f, o_leak_b, o_for, o_loop_nil, o_gN, o_gT, o_gL, o_gsNil, o_gsCons, o_any, o_enum, o_range1, o_range2, o_lc, o_lcL_nil, o_rev, o_turn, o_ownIn, o_sWr, o_sPut, o_sNever, o_kd_nx, o_kd_rt, o_kd_ex, o_frOf_p, o_frOf_f, o_frOf_b, List.getElem?_cons_zero, List.getElem?_cons_succ, List.map_cons, List.map_nil, List.cons_append, List.nil_append, List.append_nil, List.length_cons, List.length_nil, List.set_cons_zero, List.set_cons_succ, List.replicate, Nat.sub_self, Nat.zero_add, Nat.reduceAdd, Nat.reduceSub, if_true, if_false, Bool.false_eq_true, Bool.not_true, Bool.not_false, true_and, and_true, reduceIte, startE, frz, frz1, wipeE, Option.some.injEq, Sl.sh.injEq, Sl.own.injEq, o_nilT, o_consT, o_par, setD, unB, o_aug, o_augI, o_hN, o_hSub, o_hsNil, o_hsCons, o_hT, o_asgH, o_wrPop, o_dic, o_asT, v_asT_z, v_asT_t, v_asT_i, v_asT_l, o_methR, o_opR, o_ni, kindD, exists_eq_left', v_truth_b, v_split, v_strD, e1, h1, sp, v_ixl0, v_nes er er, rr, v_ord, v_lenl, List.length_map, c1, c2, v_slice1, v_addi, len3]
  rw [List.map_map]
  refine lcL_map (D.str ∘ lineS) pD (fun p hp R hR => ?_) ?_
  · simp only [o_slot_sh, o_slot_own, o_var, o_c, o_op, o_un, o_nil, o_cons, o_consB, o_star, o_items_l, o_items_t, o_tup, o_lst, o_call, o_if, o_blOf, o_andV, o_orV, o_notV, o_test, o_and, o_or, o_not, o_truth, o_yes, o_chain, o_own, o_pos, o_kw, o_asObj, o_meth, o_cm, o_prop, o_sl, o_nth, o_make, o_tagO_t, o_tagO_f, o_slice, o_no, o_so, o_intOf, o_isi, o_fmt, o_js_nil, o_js_cons, o_m1, o_call1, o_next, o_seq, o_break, o_cont, o_ret, o_retN, o_drop, o_ifS, o_set, o_asg, o_put_p, o_put_f, o_put_b, o_leak_p, o_leak_f, o_leak_b, o_for, o_loop_nil, o_gN, o_gT, o_gL, o_gsNil, o_gsCons, o_any, o_enum, o_range1, o_range2, o_lc, o_lcL_nil, o_rev, o_turn, o_ownIn, o_sWr, o_sPut, o_sNever, o_kd_nx, o_kd_rt, o_kd_ex, o_frOf_p, o_frOf_f, o_frOf_b, List.getElem?_cons_zero, List.getElem?_cons_succ, List.map_cons, List.map_nil, List.cons_append, List.nil_append, List.append_nil, List.length_cons, List.length_nil, List.set_cons_zero, List.set_cons_succ, List.replicate, Nat.sub_self, Nat.zero_add, Nat.reduceAdd, Nat.reduceSub, if_true, if_false, Bool.false_eq_true, Bool.not_true, Bool.not_false, true_and, and_true, reduceIte, startE, frz, frz1, wipeE, Option.some.injEq, Sl.sh.injEq, Sl.own.injEq, o_nilT, o_consT, o_par, setD, unB, o_aug, o_augI, o_hN, o_hSub, o_hsNil, o_hsCons, o_hT, o_asgH, o_wrPop, o_dic, o_asT, v_asT_z, v_asT_t, v_asT_i, v_asT_l, o_methR, o_opR, o_ni, Function.comp, sp_text_kind, Nat.reduceLT, Nat.lt_add_one]
    refine ⟨p, rfl, hl.ok p hp, ?_⟩
    first
      | exact hR
      | exact ⟨rfl, hR⟩
  · have e2 := okEq_kD hl.ok
    have no : ((l.map pD).any fun z => eqD z .non) = false := List.any_eq_false.mpr fun d hd => by
      obtain ⟨p, _, rfl⟩ := List.mem_map.mp hd
      simp [pD]
    simp only [kD] at e2
    simp only [v_tupl, o_slot_sh, o_slot_own, o_var, o_c, o_op, o_un, o_nil, o_cons, o_consB, o_star, o_items_l, o_items_t, o_tup, o_lst, o_call, o_if, o_blOf, o_andV, o_orV, o_notV, o_test, o_and, o_or, o_not, o_truth, o_yes, o_chain, o_own, o_pos, o_kw, o_asObj, o_meth, o_cm, o_prop, o_sl, o_nth, o_make, o_tagO_t, o_tagO_f, o_slice, o_no, o_so, o_intOf, o_isi, o_fmt, o_js_nil, o_js_cons, o_m1, o_call1, o_next, o_seq, o_break, o_cont, o_ret, o_retN, o_drop, o_ifS, o_set, o_asg, o_put_p, o_put_f, o_put_b, o_leak_p, o_leak_f, o_leak_b, o_for, o_loop_nil, o_gN, o_gT, o_gL, o_gsNil, o_gsCons, o_any, o_enum, o_range1, o_range2, o_lc, o_lcL_nil, o_rev, o_turn, o_ownIn, o_sWr, o_sPut, o_sNever, o_kd_nx, o_kd_rt, o_kd_ex, o_frOf_p, o_frOf_f, o_frOf_b, List.getElem?_cons_zero, List.getElem?_cons_succ, List.map_cons, List.map_nil, List.cons_append, List.nil_append, List.append_nil, List.length_cons, List.length_nil, List.set_cons_zero, List.set_cons_succ, List.replicate, Nat.sub_self, Nat.zero_add, Nat.reduceAdd, Nat.reduceSub, if_true, if_false, Bool.false_eq_true, Bool.not_true, Bool.not_false, true_and, and_true, reduceIte, startE, frz, frz1, wipeE, Option.some.injEq, Sl.sh.injEq, Sl.own.injEq, o_nilT, o_consT, o_par, setD, unB, o_aug, o_augI, o_hN, o_hSub, o_hsNil, o_hsCons, o_hT, o_asgH, o_wrPop, o_dic, o_asT, v_asT_z, v_asT_t, v_asT_i, v_asT_l, o_methR, o_opR, o_ni, fInA, fIn, okEq_n, e2, no, sp_wrong_kind]
    refine ⟨l, rfl, hl, ?_⟩
    simp only [o_slot_sh, o_slot_own, o_var, o_c, o_op, o_un, o_nil, o_cons, o_consB, o_star, o_items_l, o_items_t, o_tup, o_lst, o_call, o_if, o_blOf, o_andV, o_orV, o_notV, o_test, o_and, o_or, o_not, o_truth, o_yes, o_chain, o_own, o_pos, o_kw, o_asObj, o_meth, o_cm, o_prop, o_sl, o_nth, o_make, o_tagO_t, o_tagO_f, o_slice, o_no, o_so, o_intOf, o_isi, o_fmt, o_js_nil, o_js_cons, o_m1, o_call1, o_next, o_seq, o_break, o_cont, o_ret, o_retN, o_drop, o_ifS, o_set, o_asg, o_put_p, o_put_f, o_put_b, o_leak_p, o_leak_f, o_leak_b, o_for, o_loop_nil, o_gN, o_gT, o_gL, o_gsNil, o_gsCons, o_any, o_enum, o_range1, o_range2, o_lc, o_lcL_nil, o_rev, o_turn, o_ownIn, o_sWr, o_sPut, o_sNever, o_kd_nx, o_kd_rt, o_kd_ex, o_frOf_p, o_frOf_f, o_frOf_b, List.getElem?_cons_zero, List.getElem?_cons_succ, List.map_cons, List.map_nil, List.cons_append, List.nil_append, List.append_nil, List.length_cons, List.length_nil, List.set_cons_zero, List.set_cons_succ, List.replicate, Nat.sub_self, Nat.zero_add, Nat.reduceAdd, Nat.reduceSub, if_true, if_false, Bool.false_eq_true, Bool.not_true, Bool.not_false, true_and, and_true, reduceIte, startE, frz, frz1, wipeE, Option.some.injEq, Sl.sh.injEq, Sl.own.injEq, o_nilT, o_consT, o_par, setD, unB, o_aug, o_augI, o_hN, o_hSub, o_hsNil, o_hsCons, o_hT, o_asgH, o_wrPop, o_dic, o_asT, v_asT_z, v_asT_t, v_asT_i, v_asT_l, o_methR, o_opR, o_ni, v_is, v_nonN, sp_Row___init__]
    exact ⟨l, rfl, hl, q⟩

def sp_Row_read : Sps := fun ds Qd _ => ∃ a l, ds = [a, .str (textS l)] ∧ GoodK l ∧ Qd (.obj 0 [kD l]) false
def r_Row_read (T : Tx) : RS :=
  (sSeq (sSet 2 (dOwn 1 sp_text_row (dPos 1 (dCons (dVar 1) dNil)))) (sSeq (sIf (dTest (dOp (fIsN fun b => b) (dVar 2) (dC .non))) (sSeq sNever sNext) sNext) (sSeq (sRet (dVar 2)) sNext)))
theorem pure_Row_read (T : Tx) : ∀ ds Qd xd, ds.length = 2 → sp_Row_read ds Qd xd → r_Row_read T (kdOf Qd xd) (startE (["cls", "text", "row"] : List Str) ds) := by
  rintro _ Qd xd _ ⟨a, l, rfl, hl, q⟩
  simp only [r_Row_read, o_slot_sh, o_slot_own, o_var, o_c, o_op, o_un, o_nil, o_cons, o_consB, o_star, o_items_l, o_items_t, o_tup, o_lst, o_call, o_if, o_blOf, o_andV, o_orV, o_notV, o_test, o_and, o_or, o_not, o_truth, o_yes, o_chain, o_own, o_pos, o_kw, o_asObj, o_meth, o_cm, o_prop, o_sl, o_nth, o_make, o_tagO_t, o_tagO_f, o_slice, o_no, o_so, o_intOf, o_isi, o_fmt, o_js_nil, o_js_cons, o_m1, o_call1, o_next, o_seq, o_break, o_cont, o_ret, o_retN, o_drop, o_ifS, o_set, o_asg, o_put_p, o_put_f, o_put_b, o_leak_p, o_leak_f, o_leak_b, o_for, o_loop_nil, o_gN, o_gT, o_gL, o_gsNil, o_gsCons, o_any, o_enum, o_range1, o_range2, o_lc, o_lcL_nil, o_rev, o_turn, o_ownIn, o_sWr, o_sPut, o_sNever, o_kd_nx, o_kd_rt, o_kd_ex, o_frOf_p, o_frOf_f, o_frOf_b, List.getElem?_cons_zero, List.getElem?_cons_succ, List.map_cons, List.map_nil, List.cons_append, List.nil_append, List.append_nil, List.length_cons, List.length_nil, List.set_cons_zero, List.set_cons_succ, List.replicate, Nat.sub_self, Nat.zero_add, Nat.reduceAdd, Nat.reduceSub, if_true, if_false, Bool.false_eq_true, Bool.not_true, Bool.not_false, true_and, and_true, reduceIte, startE, frz, frz1, wipeE, Option.some.injEq, Sl.sh.injEq, Sl.own.injEq, o_nilT, o_consT, o_par, setD, unB, o_aug, o_augI, o_hN, o_hSub, o_hsNil, o_hsCons, o_hT, o_asgH, o_wrPop, o_dic, o_asT, v_asT_z, v_asT_t, v_asT_i, v_asT_l, o_methR, o_opR, o_ni, sp_text_row]
  refine ⟨l, rfl, hl, ?_⟩
  simp only [o_slot_sh, o_slot_own, o_var, o_c, o_op, o_un, o_nil, o_cons, o_consB, o_star, o_items_l, o_items_t, o_tup, o_lst, o_call, o_if, o_blOf, o_andV, o_orV, o_notV, o_test, o_and, o_or, o_not, o_truth, o_yes, o_chain, o_own, o_pos, o_kw, o_asObj, o_meth, o_cm, o_prop, o_sl, o_nth, o_make, o_tagO_t, o_tagO_f, o_slice, o_no, o_so, o_intOf, o_isi, o_fmt, o_js_nil, o_js_cons, o_m1, o_call1, o_next, o_seq, o_break, o_cont, o_ret, o_retN, o_drop, o_ifS, o_set, o_asg, o_put_p, o_put_f, o_put_b, o_leak_p, o_leak_f, o_leak_b, o_for, o_loop_nil, o_gN, o_gT, o_gL, o_gsNil, o_gsCons, o_any, o_enum, o_range1, o_range2, o_lc, o_lcL_nil, o_rev, o_turn, o_ownIn, o_sWr, o_sPut, o_sNever, o_kd_nx, o_kd_rt, o_kd_ex, o_frOf_p, o_frOf_f, o_frOf_b, List.getElem?_cons_zero, List.getElem?_cons_succ, List.map_cons, List.map_nil, List.cons_append, List.nil_append, List.append_nil, List.length_cons, List.length_nil, List.set_cons_zero, List.set_cons_succ, List.replicate, Nat.sub_self, Nat.zero_add, Nat.reduceAdd, Nat.reduceSub, if_true, if_false, Bool.false_eq_true, Bool.not_true, Bool.not_false, true_and, and_true, reduceIte, startE, frz, frz1, wipeE, Option.some.injEq, Sl.sh.injEq, Sl.own.injEq, o_nilT, o_consT, o_par, setD, unB, o_aug, o_augI, o_hN, o_hSub, o_hsNil, o_hsCons, o_hT, o_asgH, o_wrPop, o_dic, o_asT, v_asT_z, v_asT_t, v_asT_i, v_asT_l, o_methR, o_opR, o_ni, v_is, v_nonO]
  exact q

def sp__law_sheet : Sps := fun ds Qd _ => ∃ l, ds = [kD l] ∧ GoodK l ∧ Qd (.str (textS l)) false
def r__law_sheet (T : Tx) : RS :=
  (sSeq (sRet (dM1 mJoin (dC (.str "\n")) (dOp fAdd (dLst (dCons (dC (.str "row")) dNil)) (dLc (iAny (dVar 0)) [] [1, 2] (gT 2 (gsCons (gN 1) (gsCons (gN 2) gsNil))) dYes (dOp fAdd (dOp fAdd (dCall fStr (dConsB (dVar 1) dNil)) (dC (.str " x "))) (dCall fStr (dConsB (dVar 2) dNil))))))) sNext)
theorem pure__law_sheet (T : Tx) : ∀ ds Qd xd, ds.length = 1 → sp__law_sheet ds Qd xd → r__law_sheet T (kdOf Qd xd) (startE (["some", "deg", "many"] : List Str) ds) := by
  rintro _ Qd xd _ ⟨l, rfl, hl, q⟩
  have z1 : (1 : Nat) ≤ sizeLine := by decide
  have hz : l.length ≤ sizeLine := small_line (by have := hl.len; omega)
  have hz2 : l.length + 1 ≤ sizeLine := small_line (by have := hl.len; omega)
  simp only [r__law_sheet, o_slot_sh, o_slot_own, o_var, o_c, o_op, o_un, o_nil, o_cons, o_consB, o_star, o_items_l, o_items_t, o_tup, o_lst, o_call, o_if, o_blOf, o_andV, o_orV, o_notV, o_test, o_and, o_or, o_not, o_truth, o_yes, o_chain, o_own, o_pos, o_kw, o_asObj, o_meth, o_cm, o_prop, o_sl, o_nth, o_make, o_tagO_t, o_tagO_f, o_slice, o_no, o_so, o_intOf, o_isi, o_fmt, o_js_nil, o_js_cons, o_m1, o_call1, o_next, o_seq, o_break, o_cont, o_ret, o_retN, o_drop, o_ifS, o_set, o_asg, o_put_p, o_put_f, o_put_b, o_leak_p, o_leak_f, o_leak_b, o_for, o_loop_nil, o_gN, o_gT, o_gL, o_gsNil, o_gsCons, o_any, o_enum, o_range1, o_range2, o_lc, o_lcL_nil, o_rev, o_turn, o_ownIn, o_sWr, o_sPut, o_sNever, o_kd_nx, o_kd_rt, o_kd_ex, o_frOf_p, o_frOf_f, o_frOf_b, List.getElem?_cons_zero, List.getElem?_cons_succ, List.map_cons, List.map_nil, List.cons_append, List.nil_append, List.append_nil, List.length_cons, List.length_nil, List.set_cons_zero, List.set_cons_succ, List.replicate, Nat.sub_self, Nat.zero_add, Nat.reduceAdd, Nat.reduceSub, if_true, if_false, Bool.false_eq_true, Bool.not_true, Bool.not_false, true_and, and_true, reduceIte, startE, frz, frz1, wipeE, Option.some.injEq, Sl.sh.injEq, Sl.own.injEq, o_nilT, o_consT, o_par, setD, unB, o_aug, o_augI, o_hN, o_hSub, o_hsNil, o_hsCons, o_hT, o_asgH, o_wrPop, o_dic, o_asT, v_asT_z, v_asT_t, v_asT_i, v_asT_l, o_methR, o_opR, o_ni, v_strD, z1, kD, List.length_map, hz]
  refine lcL_map pD (fun p => .str (lineS p)) (fun p hp R hR => ?_) ?_
  · have hk := hl.ok p hp
    have lo := log_kind hk
    have n1 := numS_len (i := p.1) hk.1 (by have := hk.2.1; omega)
    have n2 := numS_len (i := p.2) (by have := hk.2.2.1; omega) (by have := hk.2.2.2; omega)
    have f := lineS_g hk
    have e1 := numS_eq hk.1
    have e2 := numS_eq (i := p.2) (by have := hk.2.2.1; omega)
    rw [e1, e2] at f
    have e3 : (" x " : Str).length = 3 := rfl
    have w1 : (numS p.1).length + 3 ≤ sizeLine := small_line (by omega)
    have w2 : (numS p.1).length + 3 + (numS p.2).length ≤ sizeLine := small_line (by omega)
    simp only [pD, o_slot_sh, o_slot_own, o_var, o_c, o_op, o_un, o_nil, o_cons, o_consB, o_star, o_items_l, o_items_t, o_tup, o_lst, o_call, o_if, o_blOf, o_andV, o_orV, o_notV, o_test, o_and, o_or, o_not, o_truth, o_yes, o_chain, o_own, o_pos, o_kw, o_asObj, o_meth, o_cm, o_prop, o_sl, o_nth, o_make, o_tagO_t, o_tagO_f, o_slice, o_no, o_so, o_intOf, o_isi, o_fmt, o_js_nil, o_js_cons, o_m1, o_call1, o_next, o_seq, o_break, o_cont, o_ret, o_retN, o_drop, o_ifS, o_set, o_asg, o_put_p, o_put_f, o_put_b, o_leak_p, o_leak_f, o_leak_b, o_for, o_loop_nil, o_gN, o_gT, o_gL, o_gsNil, o_gsCons, o_any, o_enum, o_range1, o_range2, o_lc, o_lcL_nil, o_rev, o_turn, o_ownIn, o_sWr, o_sPut, o_sNever, o_kd_nx, o_kd_rt, o_kd_ex, o_frOf_p, o_frOf_f, o_frOf_b, List.getElem?_cons_zero, List.getElem?_cons_succ, List.map_cons, List.map_nil, List.cons_append, List.nil_append, List.append_nil, List.length_cons, List.length_nil, List.set_cons_zero, List.set_cons_succ, List.replicate, Nat.sub_self, Nat.zero_add, Nat.reduceAdd, Nat.reduceSub, if_true, if_false, Bool.false_eq_true, Bool.not_true, Bool.not_false, true_and, and_true, reduceIte, startE, frz, frz1, wipeE, Option.some.injEq, Sl.sh.injEq, Sl.own.injEq, o_nilT, o_consT, o_par, setD, unB, o_aug, o_augI, o_hN, o_hSub, o_hsNil, o_hsCons, o_hT, o_asgH, o_wrPop, o_dic, o_asT, v_asT_z, v_asT_t, v_asT_i, v_asT_l, o_methR, o_opR, o_ni, fStr, lo, e1, e2, fAdd, strLen_append, e3, f, w1, w2, Nat.reduceLT, Nat.lt_add_one]
    exact hR
  · simp only [o_slot_sh, o_slot_own, o_var, o_c, o_op, o_un, o_nil, o_cons, o_consB, o_star, o_items_l, o_items_t, o_tup, o_lst, o_call, o_if, o_blOf, o_andV, o_orV, o_notV, o_test, o_and, o_or, o_not, o_truth, o_yes, o_chain, o_own, o_pos, o_kw, o_asObj, o_meth, o_cm, o_prop, o_sl, o_nth, o_make, o_tagO_t, o_tagO_f, o_slice, o_no, o_so, o_intOf, o_isi, o_fmt, o_js_nil, o_js_cons, o_m1, o_call1, o_next, o_seq, o_break, o_cont, o_ret, o_retN, o_drop, o_ifS, o_set, o_asg, o_put_p, o_put_f, o_put_b, o_leak_p, o_leak_f, o_leak_b, o_for, o_loop_nil, o_gN, o_gT, o_gL, o_gsNil, o_gsCons, o_any, o_enum, o_range1, o_range2, o_lc, o_lcL_nil, o_rev, o_turn, o_ownIn, o_sWr, o_sPut, o_sNever, o_kd_nx, o_kd_rt, o_kd_ex, o_frOf_p, o_frOf_f, o_frOf_b, List.getElem?_cons_zero, List.getElem?_cons_succ, List.map_cons, List.map_nil, List.cons_append, List.nil_append, List.append_nil, List.length_cons, List.length_nil, List.set_cons_zero, List.set_cons_succ, List.replicate, Nat.sub_self, Nat.zero_add, Nat.reduceAdd, Nat.reduceSub, if_true, if_false, Bool.false_eq_true, Bool.not_true, Bool.not_false, true_and, and_true, reduceIte, startE, frz, frz1, wipeE, Option.some.injEq, Sl.sh.injEq, Sl.own.injEq, o_nilT, o_consT, o_par, setD, unB, o_aug, o_augI, o_hN, o_hSub, o_hsNil, o_hsCons, o_hT, o_asgH, o_wrPop, o_dic, o_asT, v_asT_z, v_asT_t, v_asT_i, v_asT_l, o_methR, o_opR, o_ni, fAdd, mJoin, List.length_map, Nat.add_comm 1, hz2]
    exact ⟨("row" : Str) :: l.map lineS, by rw [List.map_cons, List.map_map]; rfl, text_sum hl, by rw [text_eq]; exact q⟩

def sp__law_built : Sps := fun ds Qd _ => ∃ l, ds = [.ptr, kD l] ∧ GoodK l ∧ Qd (.obj 0 [kD l]) false
def r__law_built (T : Tx) : RS :=
  (sSeq (sSet 2 (dOwn 2 sp__law_cast (dPos 2 (dCons (dVar 0) (dCons (dC (.int 3)) dNil))))) (sSeq (sIf (dTest (dOp fEq (dVar 2) (dC (.int 0)))) (sSeq (sRet (dMake 0 2 sp_Row___init__ (dPos 1 (dCons (dVar 1) dNil)))) sNext) sNext) (sSeq (sRet (dIf (dTest (dOp fEq (dVar 2) (dC (.int 1)))) (dMake 0 2 sp_Row___init__ (dPos 1 (dCons (dVar 1) dNil))) (dCm (T.cl 0) 2 sp_Row_read (dPos 1 (dCons (dOwn 1 sp__law_sheet (dPos 1 (dCons (dVar 1) dNil))) dNil))))) sNext)))
theorem pure__law_built (T : Tx) : ∀ ds Qd xd, ds.length = 2 → sp__law_built ds Qd xd → r__law_built T (kdOf Qd xd) (startE (["pail", "some", "way"] : List Str) ds) := by
  rintro _ Qd xd _ ⟨l, rfl, hl, q⟩
  simp only [r__law_built, o_slot_sh, o_slot_own, o_var, o_c, o_op, o_un, o_nil, o_cons, o_consB, o_star, o_items_l, o_items_t, o_tup, o_lst, o_call, o_if, o_blOf, o_andV, o_orV, o_notV, o_test, o_and, o_or, o_not, o_truth, o_yes, o_chain, o_own, o_pos, o_kw, o_asObj, o_meth, o_cm, o_prop, o_sl, o_nth, o_make, o_tagO_t, o_tagO_f, o_slice, o_no, o_so, o_intOf, o_isi, o_fmt, o_js_nil, o_js_cons, o_m1, o_call1, o_next, o_seq, o_break, o_cont, o_ret, o_retN, o_drop, o_ifS, o_set, o_asg, o_put_p, o_put_f, o_put_b, o_leak_p, o_leak_f, o_leak_b, o_for, o_loop_nil, o_gN, o_gT, o_gL, o_gsNil, o_gsCons, o_any, o_enum, o_range1, o_range2, o_lc, o_lcL_nil, o_rev, o_turn, o_ownIn, o_sWr, o_sPut, o_sNever, o_kd_nx, o_kd_rt, o_kd_ex, o_frOf_p, o_frOf_f, o_frOf_b, List.getElem?_cons_zero, List.getElem?_cons_succ, List.map_cons, List.map_nil, List.cons_append, List.nil_append, List.append_nil, List.length_cons, List.length_nil, List.set_cons_zero, List.set_cons_succ, List.replicate, Nat.sub_self, Nat.zero_add, Nat.reduceAdd, Nat.reduceSub, if_true, if_false, Bool.false_eq_true, Bool.not_true, Bool.not_false, true_and, and_true, reduceIte, startE, frz, frz1, wipeE, Option.some.injEq, Sl.sh.injEq, Sl.own.injEq, o_nilT, o_consT, o_par, setD, unB, o_aug, o_augI, o_hN, o_hSub, o_hsNil, o_hsCons, o_hT, o_asgH, o_wrPop, o_dic, o_asT, v_asT_z, v_asT_t, v_asT_i, v_asT_l, o_methR, o_opR, o_ni]
  refine ⟨_, rfl, by decide, by decide, fun r h1 h2 => ?_⟩
  simp only [o_slot_sh, o_slot_own, o_var, o_c, o_op, o_un, o_nil, o_cons, o_consB, o_star, o_items_l, o_items_t, o_tup, o_lst, o_call, o_if, o_blOf, o_andV, o_orV, o_notV, o_test, o_and, o_or, o_not, o_truth, o_yes, o_chain, o_own, o_pos, o_kw, o_asObj, o_meth, o_cm, o_prop, o_sl, o_nth, o_make, o_tagO_t, o_tagO_f, o_slice, o_no, o_so, o_intOf, o_isi, o_fmt, o_js_nil, o_js_cons, o_m1, o_call1, o_next, o_seq, o_break, o_cont, o_ret, o_retN, o_drop, o_ifS, o_set, o_asg, o_put_p, o_put_f, o_put_b, o_leak_p, o_leak_f, o_leak_b, o_for, o_loop_nil, o_gN, o_gT, o_gL, o_gsNil, o_gsCons, o_any, o_enum, o_range1, o_range2, o_lc, o_lcL_nil, o_rev, o_turn, o_ownIn, o_sWr, o_sPut, o_sNever, o_kd_nx, o_kd_rt, o_kd_ex, o_frOf_p, o_frOf_f, o_frOf_b, List.getElem?_cons_zero, List.getElem?_cons_succ, List.map_cons, List.map_nil, List.cons_append, List.nil_append, List.append_nil, List.length_cons, List.length_nil, List.set_cons_zero, List.set_cons_succ, List.replicate, Nat.sub_self, Nat.zero_add, Nat.reduceAdd, Nat.reduceSub, if_true, if_false, Bool.false_eq_true, Bool.not_true, Bool.not_false, true_and, and_true, reduceIte, startE, frz, frz1, wipeE, Option.some.injEq, Sl.sh.injEq, Sl.own.injEq, o_nilT, o_consT, o_par, setD, unB, o_aug, o_augI, o_hN, o_hSub, o_hsNil, o_hsCons, o_hT, o_asgH, o_wrPop, o_dic, o_asT, v_asT_z, v_asT_t, v_asT_i, v_asT_l, o_methR, o_opR, o_ni, v_eqi, sp_Row___init__, sp_Row_read, sp__law_sheet]
  split
  · exact ⟨l, rfl, hl, q⟩
  · split
    · exact ⟨l, rfl, hl, q⟩
    · exact ⟨l, rfl, hl, ⟨_, l, rfl, hl, q⟩⟩

def sp__law_near : Sps := fun ds Qd _ => ∃ l, ds = [.ptr, kD l] ∧ GoodK l ∧ ∀ m, GoodK m → Qd (kD m) false
def r__law_near (T : Tx) : RS :=
  (sSeq (sPar [2, 3] (dConsT (dOwn 2 sp__law_cast (dPos 2 (dCons (dVar 0) (dCons (dCall fLen (dConsB (dVar 1) dNil)) dNil)))) (dConsT (dOwn 2 sp__law_cast (dPos 2 (dCons (dVar 0) (dCons (dC (.int 4)) dNil)))) dNilT))) (sSeq (sAsg (dOp fIxA (dVar 1) (dVar 2)) (gT 2 (gsCons (gN 4) (gsCons (gN 5) gsNil)))) (sSeq (sIf (dTest (dOp fEq (dVar 3) (dC (.int 0)))) (sSeq (sRet (dOp fAdd (dOp fAdd (dSlice fSlice (dVar 1) oNo (oSo (dVar 2))) (dTup (dCons (dTup (dCons (dVar 4) (dCons (dIf (dTest (dOp fLt (dVar 5) (dOp fPow (dC (.int 10)) (dC (.int 30))))) (dOp fAdd (dVar 5) (dC (.int 1))) (dC (.int 1))) dNil))) dNil))) (dSlice fSlice (dVar 1) (oSo (dOp fAdd (dVar 2) (dC (.int 1)))) oNo))) sNext) sNext) (sSeq (sIf (dAnd (dTest (dOp fEq (dVar 3) (dC (.int 1)))) (dTest (dOp fGt (dCall fLen (dConsB (dVar 1) dNil)) (dC (.int 1))))) (sSeq (sRet (dOp fAdd (dSlice fSlice (dVar 1) oNo (oSo (dVar 2))) (dSlice fSlice (dVar 1) (oSo (dOp fAdd (dVar 2) (dC (.int 1)))) oNo))) sNext) sNext) (sSeq (sIf (dAnd (dTest (dOp fEq (dVar 3) (dC (.int 2)))) (dAnd (dTest (dOp fEq (dVar 2) (dC (.int 0)))) (dTest (dOp fLt (dVar 4) (dOp fPow (dC (.int 10)) (dC (.int 31))))))) (sSeq (sRet (dOp fAdd (dTup (dCons (dTup (dCons (dOp fAdd (dVar 4) (dC (.int 1))) (dCons (dVar 5) dNil))) dNil)) (dSlice fSlice (dVar 1) (oSo (dC (.int 1))) oNo))) sNext) sNext) (sSeq (sRet (dVar 1)) sNext))))))
theorem pure__law_near (T : Tx) : ∀ ds Qd xd, ds.length = 2 → sp__law_near ds Qd xd → r__law_near T (kdOf Qd xd) (startE (["pail", "some", "at", "way", "deg", "many"] : List Str) ds) := by
  rintro _ Qd xd _ ⟨l, rfl, hl, q⟩
  have l1 : 1 ≤ l.length := List.length_pos_iff.mpr hl.ne
  have l10 := hl.len
  have z1 : (1 : Nat) ≤ sizeLine := by decide
  have z2 : (2 : Nat) ≤ sizeLine := by decide
  have q' : ∀ m, GoodK m → Qd (.tup (m.map pD)) false := q
  have hz : ∀ n : Nat, n ≤ 40 → n ≤ sizeLine := fun n h => small_line (by omega)
  unfold r__law_near
  refine seq_bar fun K1 hK1 => ?_
  try simp only [o_slot_sh, o_slot_own, o_var, o_c, o_op, o_un, o_nil, o_cons, o_consB, o_star, o_items_l, o_items_t, o_tup, o_lst, o_call, o_if, o_blOf, o_andV, o_orV, o_notV, o_test, o_and, o_or, o_not, o_truth, o_yes, o_chain, o_own, o_pos, o_kw, o_asObj, o_meth, o_cm, o_prop, o_sl, o_nth, o_make, o_tagO_t, o_tagO_f, o_slice, o_no, o_so, o_intOf, o_isi, o_fmt, o_js_nil, o_js_cons, o_m1, o_call1, o_next, o_seq, o_break, o_cont, o_ret, o_retN, o_drop, o_ifS, o_set, o_asg, o_put_p, o_put_f, o_put_b, o_leak_p, o_leak_f, o_leak_b, o_for, o_loop_nil, o_gN, o_gT, o_gL, o_gsNil, o_gsCons, o_any, o_enum, o_range1, o_range2, o_lc, o_lcL_nil, o_rev, o_turn, o_ownIn, o_sWr, o_sPut, o_sNever, o_kd_nx, o_kd_rt, o_kd_ex, o_frOf_p, o_frOf_f, o_frOf_b, List.getElem?_cons_zero, List.getElem?_cons_succ, List.map_cons, List.map_nil, List.cons_append, List.nil_append, List.append_nil, List.length_cons, List.length_nil, List.set_cons_zero, List.set_cons_succ, List.replicate, Nat.sub_self, Nat.zero_add, Nat.reduceAdd, Nat.reduceSub, if_true, if_false, Bool.false_eq_true, Bool.not_true, Bool.not_false, true_and, and_true, reduceIte, startE, frz, frz1, wipeE, Option.some.injEq, Sl.sh.injEq, Sl.own.injEq, o_nilT, o_consT, o_par, setD, unB, o_aug, o_augI, o_hN, o_hSub, o_hsNil, o_hsCons, o_hT, o_asgH, o_wrPop, o_dic, o_asT, v_asT_z, v_asT_t, v_asT_i, v_asT_l, o_methR, o_opR, o_ni, kD, v_lent, List.length_map]
  refine ⟨_, rfl, by omega, by omega, fun i i0 i1 => ?_⟩
  try simp only [o_slot_sh, o_slot_own, o_var, o_c, o_op, o_un, o_nil, o_cons, o_consB, o_star, o_items_l, o_items_t, o_tup, o_lst, o_call, o_if, o_blOf, o_andV, o_orV, o_notV, o_test, o_and, o_or, o_not, o_truth, o_yes, o_chain, o_own, o_pos, o_kw, o_asObj, o_meth, o_cm, o_prop, o_sl, o_nth, o_make, o_tagO_t, o_tagO_f, o_slice, o_no, o_so, o_intOf, o_isi, o_fmt, o_js_nil, o_js_cons, o_m1, o_call1, o_next, o_seq, o_break, o_cont, o_ret, o_retN, o_drop, o_ifS, o_set, o_asg, o_put_p, o_put_f, o_put_b, o_leak_p, o_leak_f, o_leak_b, o_for, o_loop_nil, o_gN, o_gT, o_gL, o_gsNil, o_gsCons, o_any, o_enum, o_range1, o_range2, o_lc, o_lcL_nil, o_rev, o_turn, o_ownIn, o_sWr, o_sPut, o_sNever, o_kd_nx, o_kd_rt, o_kd_ex, o_frOf_p, o_frOf_f, o_frOf_b, List.getElem?_cons_zero, List.getElem?_cons_succ, List.map_cons, List.map_nil, List.cons_append, List.nil_append, List.append_nil, List.length_cons, List.length_nil, List.set_cons_zero, List.set_cons_succ, List.replicate, Nat.sub_self, Nat.zero_add, Nat.reduceAdd, Nat.reduceSub, if_true, if_false, Bool.false_eq_true, Bool.not_true, Bool.not_false, true_and, and_true, reduceIte, startE, frz, frz1, wipeE, Option.some.injEq, Sl.sh.injEq, Sl.own.injEq, o_nilT, o_consT, o_par, setD, unB, o_aug, o_augI, o_hN, o_hSub, o_hsNil, o_hsCons, o_hT, o_asgH, o_wrPop, o_dic, o_asT, v_asT_z, v_asT_t, v_asT_i, v_asT_l, o_methR, o_opR, o_ni]
  refine ⟨_, rfl, by decide, by decide, fun w w0 w1 => ?_⟩
  try simp only [o_slot_sh, o_slot_own, o_var, o_c, o_op, o_un, o_nil, o_cons, o_consB, o_star, o_items_l, o_items_t, o_tup, o_lst, o_call, o_if, o_blOf, o_andV, o_orV, o_notV, o_test, o_and, o_or, o_not, o_truth, o_yes, o_chain, o_own, o_pos, o_kw, o_asObj, o_meth, o_cm, o_prop, o_sl, o_nth, o_make, o_tagO_t, o_tagO_f, o_slice, o_no, o_so, o_intOf, o_isi, o_fmt, o_js_nil, o_js_cons, o_m1, o_call1, o_next, o_seq, o_break, o_cont, o_ret, o_retN, o_drop, o_ifS, o_set, o_asg, o_put_p, o_put_f, o_put_b, o_leak_p, o_leak_f, o_leak_b, o_for, o_loop_nil, o_gN, o_gT, o_gL, o_gsNil, o_gsCons, o_any, o_enum, o_range1, o_range2, o_lc, o_lcL_nil, o_rev, o_turn, o_ownIn, o_sWr, o_sPut, o_sNever, o_kd_nx, o_kd_rt, o_kd_ex, o_frOf_p, o_frOf_f, o_frOf_b, List.getElem?_cons_zero, List.getElem?_cons_succ, List.map_cons, List.map_nil, List.cons_append, List.nil_append, List.append_nil, List.length_cons, List.length_nil, List.set_cons_zero, List.set_cons_succ, List.replicate, Nat.sub_self, Nat.zero_add, Nat.reduceAdd, Nat.reduceSub, if_true, if_false, Bool.false_eq_true, Bool.not_true, Bool.not_false, true_and, and_true, reduceIte, startE, frz, frz1, wipeE, Option.some.injEq, Sl.sh.injEq, Sl.own.injEq, o_nilT, o_consT, o_par, setD, unB, o_aug, o_augI, o_hN, o_hSub, o_hsNil, o_hsCons, o_hT, o_asgH, o_wrPop, o_dic, o_asT, v_asT_z, v_asT_t, v_asT_i, v_asT_l, o_methR, o_opR, o_ni, setD]
  refine hK1 _ (seq_bar fun K2 hK2 => ?_)
  obtain ⟨j, rfl⟩ := Int.eq_ofNat_of_zero_le i0
  have hj : j < l.length := by omega
  obtain ⟨p, hp⟩ : ∃ p, l[j]? = some p := ⟨l[j], List.getElem?_eq_getElem hj⟩
  have hpm : p ∈ l := List.mem_of_getElem? hp
  have kp := hl.ok p hpm
  have sp := split_at hp
  have hg : GoodK (l.take j ++ p :: l.drop (j + 1)) := by rw [← sp]; exact hl
  have xi : ∀ k : D → Tag → Prop, fIxA (.tup (l.map pD)) (.int (j : Nat)) k = k (pD p) .p := fun k => v_ixt (by rw [atI_get, List.getElem?_map, hp]; rfl)
  have hj1 : (((j : Nat) : Int) + 1).toNat = j + 1 := by omega
  have tk : (l.take j).length ≤ 10 := by rw [List.length_take]; omega
  have dk : (l.drop (j + 1)).length ≤ 10 := by rw [List.length_drop]; omega
  have c1 : cutD (l.map pD) none (some ((j : Nat) : Int)) = (l.take j).map pD := by rw [cutD_to (by omega), Int.toNat_natCast, take_pD]
  have c2 : cutD (l.map pD) (some (((j : Nat) : Int) + 1)) none = (l.drop (j + 1)).map pD := by rw [cutD_from (by omega), hj1, drop_pD]
  have c3 : cutD (l.map pD) (some 1) none = (l.drop 1).map pD := by rw [cutD_from (by decide), drop_pD]; rfl
  try simp only [o_slot_sh, o_slot_own, o_var, o_c, o_op, o_un, o_nil, o_cons, o_consB, o_star, o_items_l, o_items_t, o_tup, o_lst, o_call, o_if, o_blOf, o_andV, o_orV, o_notV, o_test, o_and, o_or, o_not, o_truth, o_yes, o_chain, o_own, o_pos, o_kw, o_asObj, o_meth, o_cm, o_prop, o_sl, o_nth, o_make, o_tagO_t, o_tagO_f, o_slice, o_no, o_so, o_intOf, o_isi, o_fmt, o_js_nil, o_js_cons, o_m1, o_call1, o_next, o_seq, o_break, o_cont, o_ret, o_retN, o_drop, o_ifS, o_set, o_asg, o_put_p, o_put_f, o_put_b, o_leak_p, o_leak_f, o_leak_b, o_for, o_loop_nil, o_gN, o_gT, o_gL, o_gsNil, o_gsCons, o_any, o_enum, o_range1, o_range2, o_lc, o_lcL_nil, o_rev, o_turn, o_ownIn, o_sWr, o_sPut, o_sNever, o_kd_nx, o_kd_rt, o_kd_ex, o_frOf_p, o_frOf_f, o_frOf_b, List.getElem?_cons_zero, List.getElem?_cons_succ, List.map_cons, List.map_nil, List.cons_append, List.nil_append, List.append_nil, List.length_cons, List.length_nil, List.set_cons_zero, List.set_cons_succ, List.replicate, Nat.sub_self, Nat.zero_add, Nat.reduceAdd, Nat.reduceSub, if_true, if_false, Bool.false_eq_true, Bool.not_true, Bool.not_false, true_and, and_true, reduceIte, startE, frz, frz1, wipeE, Option.some.injEq, Sl.sh.injEq, Sl.own.injEq, o_nilT, o_consT, o_par, setD, unB, o_aug, o_augI, o_hN, o_hSub, o_hsNil, o_hsCons, o_hT, o_asgH, o_wrPop, o_dic, o_asT, v_asT_z, v_asT_t, v_asT_i, v_asT_l, o_methR, o_opR, o_ni, xi, pD, Nat.reduceLT, Nat.lt_add_one]
  refine hK2 _ (seq_bar fun K3 hK3 => ?_)
  have rest : K3 [.sh .ptr, .sh (.tup (l.map pD)), .sh (.int (j : Nat)), .sh (.int w), .sh (.int p.1), .sh (.int p.2)] := hK3 _ (by
    refine seq_bar fun K4 hK4 => ?_
    have rest : K4 [.sh .ptr, .sh (.tup (l.map pD)), .sh (.int (j : Nat)), .sh (.int w), .sh (.int p.1), .sh (.int p.2)] := hK4 _ (by
      refine seq_bar fun K5 hK5 => ?_
      have rest : K5 [.sh .ptr, .sh (.tup (l.map pD)), .sh (.int (j : Nat)), .sh (.int w), .sh (.int p.1), .sh (.int p.2)] := hK5 _ (by
        try simp only [o_slot_sh, o_slot_own, o_var, o_c, o_op, o_un, o_nil, o_cons, o_consB, o_star, o_items_l, o_items_t, o_tup, o_lst, o_call, o_if, o_blOf, o_andV, o_orV, o_notV, o_test, o_and, o_or, o_not, o_truth, o_yes, o_chain, o_own, o_pos, o_kw, o_asObj, o_meth, o_cm, o_prop, o_sl, o_nth, o_make, o_tagO_t, o_tagO_f, o_slice, o_no, o_so, o_intOf, o_isi, o_fmt, o_js_nil, o_js_cons, o_m1, o_call1, o_next, o_seq, o_break, o_cont, o_ret, o_retN, o_drop, o_ifS, o_set, o_asg, o_put_p, o_put_f, o_put_b, o_leak_p, o_leak_f, o_leak_b, o_for, o_loop_nil, o_gN, o_gT, o_gL, o_gsNil, o_gsCons, o_any, o_enum, o_range1, o_range2, o_lc, o_lcL_nil, o_rev, o_turn, o_ownIn, o_sWr, o_sPut, o_sNever, o_kd_nx, o_kd_rt, o_kd_ex, o_frOf_p, o_frOf_f, o_frOf_b, List.getElem?_cons_zero, List.getElem?_cons_succ, List.map_cons, List.map_nil, List.cons_append, List.nil_append, List.append_nil, List.length_cons, List.length_nil, List.set_cons_zero, List.set_cons_succ, List.replicate, Nat.sub_self, Nat.zero_add, Nat.reduceAdd, Nat.reduceSub, if_true, if_false, Bool.false_eq_true, Bool.not_true, Bool.not_false, true_and, and_true, reduceIte, startE, frz, frz1, wipeE, Option.some.injEq, Sl.sh.injEq, Sl.own.injEq, o_nilT, o_consT, o_par, setD, unB, o_aug, o_augI, o_hN, o_hSub, o_hsNil, o_hsCons, o_hT, o_asgH, o_wrPop, o_dic, o_asT, v_asT_z, v_asT_t, v_asT_i, v_asT_l, o_methR, o_opR, o_ni]
        exact q' l hl)
      try simp only [o_slot_sh, o_slot_own, o_var, o_c, o_op, o_un, o_nil, o_cons, o_consB, o_star, o_items_l, o_items_t, o_tup, o_lst, o_call, o_if, o_blOf, o_andV, o_orV, o_notV, o_test, o_and, o_or, o_not, o_truth, o_yes, o_chain, o_own, o_pos, o_kw, o_asObj, o_meth, o_cm, o_prop, o_sl, o_nth, o_make, o_tagO_t, o_tagO_f, o_slice, o_no, o_so, o_intOf, o_isi, o_fmt, o_js_nil, o_js_cons, o_m1, o_call1, o_next, o_seq, o_break, o_cont, o_ret, o_retN, o_drop, o_ifS, o_set, o_asg, o_put_p, o_put_f, o_put_b, o_leak_p, o_leak_f, o_leak_b, o_for, o_loop_nil, o_gN, o_gT, o_gL, o_gsNil, o_gsCons, o_any, o_enum, o_range1, o_range2, o_lc, o_lcL_nil, o_rev, o_turn, o_ownIn, o_sWr, o_sPut, o_sNever, o_kd_nx, o_kd_rt, o_kd_ex, o_frOf_p, o_frOf_f, o_frOf_b, List.getElem?_cons_zero, List.getElem?_cons_succ, List.map_cons, List.map_nil, List.cons_append, List.nil_append, List.append_nil, List.length_cons, List.length_nil, List.set_cons_zero, List.set_cons_succ, List.replicate, Nat.sub_self, Nat.zero_add, Nat.reduceAdd, Nat.reduceSub, if_true, if_false, Bool.false_eq_true, Bool.not_true, Bool.not_false, true_and, and_true, reduceIte, startE, frz, frz1, wipeE, Option.some.injEq, Sl.sh.injEq, Sl.own.injEq, o_nilT, o_consT, o_par, setD, unB, o_aug, o_augI, o_hN, o_hSub, o_hsNil, o_hsCons, o_hT, o_asgH, o_wrPop, o_dic, o_asT, v_asT_z, v_asT_t, v_asT_i, v_asT_l, o_methR, o_opR, o_ni, v_eqi]
      split
      · split
        · rename_i hj0
          have hj0 : j = 0 := by simpa using hj0
          try simp only [o_slot_sh, o_slot_own, o_var, o_c, o_op, o_un, o_nil, o_cons, o_consB, o_star, o_items_l, o_items_t, o_tup, o_lst, o_call, o_if, o_blOf, o_andV, o_orV, o_notV, o_test, o_and, o_or, o_not, o_truth, o_yes, o_chain, o_own, o_pos, o_kw, o_asObj, o_meth, o_cm, o_prop, o_sl, o_nth, o_make, o_tagO_t, o_tagO_f, o_slice, o_no, o_so, o_intOf, o_isi, o_fmt, o_js_nil, o_js_cons, o_m1, o_call1, o_next, o_seq, o_break, o_cont, o_ret, o_retN, o_drop, o_ifS, o_set, o_asg, o_put_p, o_put_f, o_put_b, o_leak_p, o_leak_f, o_leak_b, o_for, o_loop_nil, o_gN, o_gT, o_gL, o_gsNil, o_gsCons, o_any, o_enum, o_range1, o_range2, o_lc, o_lcL_nil, o_rev, o_turn, o_ownIn, o_sWr, o_sPut, o_sNever, o_kd_nx, o_kd_rt, o_kd_ex, o_frOf_p, o_frOf_f, o_frOf_b, List.getElem?_cons_zero, List.getElem?_cons_succ, List.map_cons, List.map_nil, List.cons_append, List.nil_append, List.append_nil, List.length_cons, List.length_nil, List.set_cons_zero, List.set_cons_succ, List.replicate, Nat.sub_self, Nat.zero_add, Nat.reduceAdd, Nat.reduceSub, if_true, if_false, Bool.false_eq_true, Bool.not_true, Bool.not_false, true_and, and_true, reduceIte, startE, frz, frz1, wipeE, Option.some.injEq, Sl.sh.injEq, Sl.own.injEq, o_nilT, o_consT, o_par, setD, unB, o_aug, o_augI, o_hN, o_hSub, o_hsNil, o_hsCons, o_hT, o_asgH, o_wrPop, o_dic, o_asT, v_asT_z, v_asT_t, v_asT_i, v_asT_l, o_methR, o_opR, o_ni, v_p31, v_ord]
          by_cases c : p.1 < 10 ^ 31
          · subst hj0
            have e : l = p :: l.drop 1 := by simpa using sp
            have g2 := good_up (p := p) (B := l.drop 1) (by rw [← e]; exact hl) c
            have hs : 1 + (l.drop 1).length ≤ sizeLine := hz _ (by rw [List.length_drop]; omega)
            try simp only [o_slot_sh, o_slot_own, o_var, o_c, o_op, o_un, o_nil, o_cons, o_consB, o_star, o_items_l, o_items_t, o_tup, o_lst, o_call, o_if, o_blOf, o_andV, o_orV, o_notV, o_test, o_and, o_or, o_not, o_truth, o_yes, o_chain, o_own, o_pos, o_kw, o_asObj, o_meth, o_cm, o_prop, o_sl, o_nth, o_make, o_tagO_t, o_tagO_f, o_slice, o_no, o_so, o_intOf, o_isi, o_fmt, o_js_nil, o_js_cons, o_m1, o_call1, o_next, o_seq, o_break, o_cont, o_ret, o_retN, o_drop, o_ifS, o_set, o_asg, o_put_p, o_put_f, o_put_b, o_leak_p, o_leak_f, o_leak_b, o_for, o_loop_nil, o_gN, o_gT, o_gL, o_gsNil, o_gsCons, o_any, o_enum, o_range1, o_range2, o_lc, o_lcL_nil, o_rev, o_turn, o_ownIn, o_sWr, o_sPut, o_sNever, o_kd_nx, o_kd_rt, o_kd_ex, o_frOf_p, o_frOf_f, o_frOf_b, List.getElem?_cons_zero, List.getElem?_cons_succ, List.map_cons, List.map_nil, List.cons_append, List.nil_append, List.append_nil, List.length_cons, List.length_nil, List.set_cons_zero, List.set_cons_succ, List.replicate, Nat.sub_self, Nat.zero_add, Nat.reduceAdd, Nat.reduceSub, if_true, if_false, Bool.false_eq_true, Bool.not_true, Bool.not_false, true_and, and_true, reduceIte, startE, frz, frz1, wipeE, Option.some.injEq, Sl.sh.injEq, Sl.own.injEq, o_nilT, o_consT, o_par, setD, unB, o_aug, o_augI, o_hN, o_hSub, o_hsNil, o_hsCons, o_hT, o_asgH, o_wrPop, o_dic, o_asT, v_asT_z, v_asT_t, v_asT_i, v_asT_l, o_methR, o_opR, o_ni, c, decide_true, v_addi, z1, z2, v_slicet, c3, fAdd, List.length_map, hs]
            exact q' _ g2
          · try simp only [o_slot_sh, o_slot_own, o_var, o_c, o_op, o_un, o_nil, o_cons, o_consB, o_star, o_items_l, o_items_t, o_tup, o_lst, o_call, o_if, o_blOf, o_andV, o_orV, o_notV, o_test, o_and, o_or, o_not, o_truth, o_yes, o_chain, o_own, o_pos, o_kw, o_asObj, o_meth, o_cm, o_prop, o_sl, o_nth, o_make, o_tagO_t, o_tagO_f, o_slice, o_no, o_so, o_intOf, o_isi, o_fmt, o_js_nil, o_js_cons, o_m1, o_call1, o_next, o_seq, o_break, o_cont, o_ret, o_retN, o_drop, o_ifS, o_set, o_asg, o_put_p, o_put_f, o_put_b, o_leak_p, o_leak_f, o_leak_b, o_for, o_loop_nil, o_gN, o_gT, o_gL, o_gsNil, o_gsCons, o_any, o_enum, o_range1, o_range2, o_lc, o_lcL_nil, o_rev, o_turn, o_ownIn, o_sWr, o_sPut, o_sNever, o_kd_nx, o_kd_rt, o_kd_ex, o_frOf_p, o_frOf_f, o_frOf_b, List.getElem?_cons_zero, List.getElem?_cons_succ, List.map_cons, List.map_nil, List.cons_append, List.nil_append, List.append_nil, List.length_cons, List.length_nil, List.set_cons_zero, List.set_cons_succ, List.replicate, Nat.sub_self, Nat.zero_add, Nat.reduceAdd, Nat.reduceSub, if_true, if_false, Bool.false_eq_true, Bool.not_true, Bool.not_false, true_and, and_true, reduceIte, startE, frz, frz1, wipeE, Option.some.injEq, Sl.sh.injEq, Sl.own.injEq, o_nilT, o_consT, o_par, setD, unB, o_aug, o_augI, o_hN, o_hSub, o_hsNil, o_hsCons, o_hT, o_asgH, o_wrPop, o_dic, o_asT, v_asT_z, v_asT_t, v_asT_i, v_asT_l, o_methR, o_opR, o_ni, c, decide_false]
            exact rest
        · exact rest
      · exact rest)
    try simp only [o_slot_sh, o_slot_own, o_var, o_c, o_op, o_un, o_nil, o_cons, o_consB, o_star, o_items_l, o_items_t, o_tup, o_lst, o_call, o_if, o_blOf, o_andV, o_orV, o_notV, o_test, o_and, o_or, o_not, o_truth, o_yes, o_chain, o_own, o_pos, o_kw, o_asObj, o_meth, o_cm, o_prop, o_sl, o_nth, o_make, o_tagO_t, o_tagO_f, o_slice, o_no, o_so, o_intOf, o_isi, o_fmt, o_js_nil, o_js_cons, o_m1, o_call1, o_next, o_seq, o_break, o_cont, o_ret, o_retN, o_drop, o_ifS, o_set, o_asg, o_put_p, o_put_f, o_put_b, o_leak_p, o_leak_f, o_leak_b, o_for, o_loop_nil, o_gN, o_gT, o_gL, o_gsNil, o_gsCons, o_any, o_enum, o_range1, o_range2, o_lc, o_lcL_nil, o_rev, o_turn, o_ownIn, o_sWr, o_sPut, o_sNever, o_kd_nx, o_kd_rt, o_kd_ex, o_frOf_p, o_frOf_f, o_frOf_b, List.getElem?_cons_zero, List.getElem?_cons_succ, List.map_cons, List.map_nil, List.cons_append, List.nil_append, List.append_nil, List.length_cons, List.length_nil, List.set_cons_zero, List.set_cons_succ, List.replicate, Nat.sub_self, Nat.zero_add, Nat.reduceAdd, Nat.reduceSub, if_true, if_false, Bool.false_eq_true, Bool.not_true, Bool.not_false, true_and, and_true, reduceIte, startE, frz, frz1, wipeE, Option.some.injEq, Sl.sh.injEq, Sl.own.injEq, o_nilT, o_consT, o_par, setD, unB, o_aug, o_augI, o_hN, o_hSub, o_hsNil, o_hsCons, o_hT, o_asgH, o_wrPop, o_dic, o_asT, v_asT_z, v_asT_t, v_asT_i, v_asT_l, o_methR, o_opR, o_ni, v_eqi]
    split
    · try simp only [o_slot_sh, o_slot_own, o_var, o_c, o_op, o_un, o_nil, o_cons, o_consB, o_star, o_items_l, o_items_t, o_tup, o_lst, o_call, o_if, o_blOf, o_andV, o_orV, o_notV, o_test, o_and, o_or, o_not, o_truth, o_yes, o_chain, o_own, o_pos, o_kw, o_asObj, o_meth, o_cm, o_prop, o_sl, o_nth, o_make, o_tagO_t, o_tagO_f, o_slice, o_no, o_so, o_intOf, o_isi, o_fmt, o_js_nil, o_js_cons, o_m1, o_call1, o_next, o_seq, o_break, o_cont, o_ret, o_retN, o_drop, o_ifS, o_set, o_asg, o_put_p, o_put_f, o_put_b, o_leak_p, o_leak_f, o_leak_b, o_for, o_loop_nil, o_gN, o_gT, o_gL, o_gsNil, o_gsCons, o_any, o_enum, o_range1, o_range2, o_lc, o_lcL_nil, o_rev, o_turn, o_ownIn, o_sWr, o_sPut, o_sNever, o_kd_nx, o_kd_rt, o_kd_ex, o_frOf_p, o_frOf_f, o_frOf_b, List.getElem?_cons_zero, List.getElem?_cons_succ, List.map_cons, List.map_nil, List.cons_append, List.nil_append, List.append_nil, List.length_cons, List.length_nil, List.set_cons_zero, List.set_cons_succ, List.replicate, Nat.sub_self, Nat.zero_add, Nat.reduceAdd, Nat.reduceSub, if_true, if_false, Bool.false_eq_true, Bool.not_true, Bool.not_false, true_and, and_true, reduceIte, startE, frz, frz1, wipeE, Option.some.injEq, Sl.sh.injEq, Sl.own.injEq, o_nilT, o_consT, o_par, setD, unB, o_aug, o_augI, o_hN, o_hSub, o_hsNil, o_hsCons, o_hT, o_asgH, o_wrPop, o_dic, o_asT, v_asT_z, v_asT_t, v_asT_i, v_asT_l, o_methR, o_opR, o_ni, v_lent, List.length_map, v_ord]
      by_cases c : (1 : Int) < (l.length : Nat)
      · have hs : (l.take j).length + (l.drop (j + 1)).length ≤ sizeLine := hz _ (by omega)
        have gn : l.take j ++ l.drop (j + 1) ≠ [] := fun e => by
          have := congrArg List.length e
          have e2 := congrArg List.length sp
          simp only [List.length_append, List.length_cons, List.length_nil] at this e2
          omega
        try simp only [o_slot_sh, o_slot_own, o_var, o_c, o_op, o_un, o_nil, o_cons, o_consB, o_star, o_items_l, o_items_t, o_tup, o_lst, o_call, o_if, o_blOf, o_andV, o_orV, o_notV, o_test, o_and, o_or, o_not, o_truth, o_yes, o_chain, o_own, o_pos, o_kw, o_asObj, o_meth, o_cm, o_prop, o_sl, o_nth, o_make, o_tagO_t, o_tagO_f, o_slice, o_no, o_so, o_intOf, o_isi, o_fmt, o_js_nil, o_js_cons, o_m1, o_call1, o_next, o_seq, o_break, o_cont, o_ret, o_retN, o_drop, o_ifS, o_set, o_asg, o_put_p, o_put_f, o_put_b, o_leak_p, o_leak_f, o_leak_b, o_for, o_loop_nil, o_gN, o_gT, o_gL, o_gsNil, o_gsCons, o_any, o_enum, o_range1, o_range2, o_lc, o_lcL_nil, o_rev, o_turn, o_ownIn, o_sWr, o_sPut, o_sNever, o_kd_nx, o_kd_rt, o_kd_ex, o_frOf_p, o_frOf_f, o_frOf_b, List.getElem?_cons_zero, List.getElem?_cons_succ, List.map_cons, List.map_nil, List.cons_append, List.nil_append, List.append_nil, List.length_cons, List.length_nil, List.set_cons_zero, List.set_cons_succ, List.replicate, Nat.sub_self, Nat.zero_add, Nat.reduceAdd, Nat.reduceSub, if_true, if_false, Bool.false_eq_true, Bool.not_true, Bool.not_false, true_and, and_true, reduceIte, startE, frz, frz1, wipeE, Option.some.injEq, Sl.sh.injEq, Sl.own.injEq, o_nilT, o_consT, o_par, setD, unB, o_aug, o_augI, o_hN, o_hSub, o_hsNil, o_hsCons, o_hT, o_asgH, o_wrPop, o_dic, o_asT, v_asT_z, v_asT_t, v_asT_i, v_asT_l, o_methR, o_opR, o_ni, c, decide_true, v_slicet, v_addi, c1, c2, fAdd, List.length_map, hs]
        rw [← List.map_append]
        exact q' _ (good_out hg gn)
      · try simp only [o_slot_sh, o_slot_own, o_var, o_c, o_op, o_un, o_nil, o_cons, o_consB, o_star, o_items_l, o_items_t, o_tup, o_lst, o_call, o_if, o_blOf, o_andV, o_orV, o_notV, o_test, o_and, o_or, o_not, o_truth, o_yes, o_chain, o_own, o_pos, o_kw, o_asObj, o_meth, o_cm, o_prop, o_sl, o_nth, o_make, o_tagO_t, o_tagO_f, o_slice, o_no, o_so, o_intOf, o_isi, o_fmt, o_js_nil, o_js_cons, o_m1, o_call1, o_next, o_seq, o_break, o_cont, o_ret, o_retN, o_drop, o_ifS, o_set, o_asg, o_put_p, o_put_f, o_put_b, o_leak_p, o_leak_f, o_leak_b, o_for, o_loop_nil, o_gN, o_gT, o_gL, o_gsNil, o_gsCons, o_any, o_enum, o_range1, o_range2, o_lc, o_lcL_nil, o_rev, o_turn, o_ownIn, o_sWr, o_sPut, o_sNever, o_kd_nx, o_kd_rt, o_kd_ex, o_frOf_p, o_frOf_f, o_frOf_b, List.getElem?_cons_zero, List.getElem?_cons_succ, List.map_cons, List.map_nil, List.cons_append, List.nil_append, List.append_nil, List.length_cons, List.length_nil, List.set_cons_zero, List.set_cons_succ, List.replicate, Nat.sub_self, Nat.zero_add, Nat.reduceAdd, Nat.reduceSub, if_true, if_false, Bool.false_eq_true, Bool.not_true, Bool.not_false, true_and, and_true, reduceIte, startE, frz, frz1, wipeE, Option.some.injEq, Sl.sh.injEq, Sl.own.injEq, o_nilT, o_consT, o_par, setD, unB, o_aug, o_augI, o_hN, o_hSub, o_hsNil, o_hsCons, o_hT, o_asgH, o_wrPop, o_dic, o_asT, v_asT_z, v_asT_t, v_asT_i, v_asT_l, o_methR, o_opR, o_ni, c, decide_false]
        exact rest
    · exact rest)
  try simp only [o_slot_sh, o_slot_own, o_var, o_c, o_op, o_un, o_nil, o_cons, o_consB, o_star, o_items_l, o_items_t, o_tup, o_lst, o_call, o_if, o_blOf, o_andV, o_orV, o_notV, o_test, o_and, o_or, o_not, o_truth, o_yes, o_chain, o_own, o_pos, o_kw, o_asObj, o_meth, o_cm, o_prop, o_sl, o_nth, o_make, o_tagO_t, o_tagO_f, o_slice, o_no, o_so, o_intOf, o_isi, o_fmt, o_js_nil, o_js_cons, o_m1, o_call1, o_next, o_seq, o_break, o_cont, o_ret, o_retN, o_drop, o_ifS, o_set, o_asg, o_put_p, o_put_f, o_put_b, o_leak_p, o_leak_f, o_leak_b, o_for, o_loop_nil, o_gN, o_gT, o_gL, o_gsNil, o_gsCons, o_any, o_enum, o_range1, o_range2, o_lc, o_lcL_nil, o_rev, o_turn, o_ownIn, o_sWr, o_sPut, o_sNever, o_kd_nx, o_kd_rt, o_kd_ex, o_frOf_p, o_frOf_f, o_frOf_b, List.getElem?_cons_zero, List.getElem?_cons_succ, List.map_cons, List.map_nil, List.cons_append, List.nil_append, List.append_nil, List.length_cons, List.length_nil, List.set_cons_zero, List.set_cons_succ, List.replicate, Nat.sub_self, Nat.zero_add, Nat.reduceAdd, Nat.reduceSub, if_true, if_false, Bool.false_eq_true, Bool.not_true, Bool.not_false, true_and, and_true, reduceIte, startE, frz, frz1, wipeE, Option.some.injEq, Sl.sh.injEq, Sl.own.injEq, o_nilT, o_consT, o_par, setD, unB, o_aug, o_augI, o_hN, o_hSub, o_hsNil, o_hsCons, o_hT, o_asgH, o_wrPop, o_dic, o_asT, v_asT_z, v_asT_t, v_asT_i, v_asT_l, o_methR, o_opR, o_ni, v_eqi]
  split
  · have fin : ∀ c : Int, 1 ≤ c → c ≤ 10 ^ 30 → Qd (.tup ((l.take j).map pD ++ [pD (p.1, c)] ++ (l.drop (j + 1)).map pD)) false := fun c h1 h2 => by
      have := q' _ (good_mid hg h1 h2)
      rw [List.map_append, List.map_cons] at this
      rw [List.append_assoc]
      exact this
    have hs1 : (l.take j).length + 1 ≤ sizeLine := hz _ (by omega)
    have hs2 : (l.take j).length + 1 + (l.drop (j + 1)).length ≤ sizeLine := hz _ (by omega)
    try simp only [o_slot_sh, o_slot_own, o_var, o_c, o_op, o_un, o_nil, o_cons, o_consB, o_star, o_items_l, o_items_t, o_tup, o_lst, o_call, o_if, o_blOf, o_andV, o_orV, o_notV, o_test, o_and, o_or, o_not, o_truth, o_yes, o_chain, o_own, o_pos, o_kw, o_asObj, o_meth, o_cm, o_prop, o_sl, o_nth, o_make, o_tagO_t, o_tagO_f, o_slice, o_no, o_so, o_intOf, o_isi, o_fmt, o_js_nil, o_js_cons, o_m1, o_call1, o_next, o_seq, o_break, o_cont, o_ret, o_retN, o_drop, o_ifS, o_set, o_asg, o_put_p, o_put_f, o_put_b, o_leak_p, o_leak_f, o_leak_b, o_for, o_loop_nil, o_gN, o_gT, o_gL, o_gsNil, o_gsCons, o_any, o_enum, o_range1, o_range2, o_lc, o_lcL_nil, o_rev, o_turn, o_ownIn, o_sWr, o_sPut, o_sNever, o_kd_nx, o_kd_rt, o_kd_ex, o_frOf_p, o_frOf_f, o_frOf_b, List.getElem?_cons_zero, List.getElem?_cons_succ, List.map_cons, List.map_nil, List.cons_append, List.nil_append, List.append_nil, List.length_cons, List.length_nil, List.set_cons_zero, List.set_cons_succ, List.replicate, Nat.sub_self, Nat.zero_add, Nat.reduceAdd, Nat.reduceSub, if_true, if_false, Bool.false_eq_true, Bool.not_true, Bool.not_false, true_and, and_true, reduceIte, startE, frz, frz1, wipeE, Option.some.injEq, Sl.sh.injEq, Sl.own.injEq, o_nilT, o_consT, o_par, setD, unB, o_aug, o_augI, o_hN, o_hSub, o_hsNil, o_hsCons, o_hT, o_asgH, o_wrPop, o_dic, o_asT, v_asT_z, v_asT_t, v_asT_i, v_asT_l, o_methR, o_opR, o_ni, v_slicet, c1, c2, v_p30, v_ord]
    by_cases c : p.2 < 10 ^ 30
    · try simp only [o_slot_sh, o_slot_own, o_var, o_c, o_op, o_un, o_nil, o_cons, o_consB, o_star, o_items_l, o_items_t, o_tup, o_lst, o_call, o_if, o_blOf, o_andV, o_orV, o_notV, o_test, o_and, o_or, o_not, o_truth, o_yes, o_chain, o_own, o_pos, o_kw, o_asObj, o_meth, o_cm, o_prop, o_sl, o_nth, o_make, o_tagO_t, o_tagO_f, o_slice, o_no, o_so, o_intOf, o_isi, o_fmt, o_js_nil, o_js_cons, o_m1, o_call1, o_next, o_seq, o_break, o_cont, o_ret, o_retN, o_drop, o_ifS, o_set, o_asg, o_put_p, o_put_f, o_put_b, o_leak_p, o_leak_f, o_leak_b, o_for, o_loop_nil, o_gN, o_gT, o_gL, o_gsNil, o_gsCons, o_any, o_enum, o_range1, o_range2, o_lc, o_lcL_nil, o_rev, o_turn, o_ownIn, o_sWr, o_sPut, o_sNever, o_kd_nx, o_kd_rt, o_kd_ex, o_frOf_p, o_frOf_f, o_frOf_b, List.getElem?_cons_zero, List.getElem?_cons_succ, List.map_cons, List.map_nil, List.cons_append, List.nil_append, List.append_nil, List.length_cons, List.length_nil, List.set_cons_zero, List.set_cons_succ, List.replicate, Nat.sub_self, Nat.zero_add, Nat.reduceAdd, Nat.reduceSub, if_true, if_false, Bool.false_eq_true, Bool.not_true, Bool.not_false, true_and, and_true, reduceIte, startE, frz, frz1, wipeE, Option.some.injEq, Sl.sh.injEq, Sl.own.injEq, o_nilT, o_consT, o_par, setD, unB, o_aug, o_augI, o_hN, o_hSub, o_hsNil, o_hsCons, o_hT, o_asgH, o_wrPop, o_dic, o_asT, v_asT_z, v_asT_t, v_asT_i, v_asT_l, o_methR, o_opR, o_ni, c, decide_true, v_addi, v_slicet, z1, z2, c1, c2, fAdd, List.length_map, List.length_append, hs1, hs2]
      exact fin (p.2 + 1) (by have := kp.2.2.1; omega) (by omega)
    · try simp only [o_slot_sh, o_slot_own, o_var, o_c, o_op, o_un, o_nil, o_cons, o_consB, o_star, o_items_l, o_items_t, o_tup, o_lst, o_call, o_if, o_blOf, o_andV, o_orV, o_notV, o_test, o_and, o_or, o_not, o_truth, o_yes, o_chain, o_own, o_pos, o_kw, o_asObj, o_meth, o_cm, o_prop, o_sl, o_nth, o_make, o_tagO_t, o_tagO_f, o_slice, o_no, o_so, o_intOf, o_isi, o_fmt, o_js_nil, o_js_cons, o_m1, o_call1, o_next, o_seq, o_break, o_cont, o_ret, o_retN, o_drop, o_ifS, o_set, o_asg, o_put_p, o_put_f, o_put_b, o_leak_p, o_leak_f, o_leak_b, o_for, o_loop_nil, o_gN, o_gT, o_gL, o_gsNil, o_gsCons, o_any, o_enum, o_range1, o_range2, o_lc, o_lcL_nil, o_rev, o_turn, o_ownIn, o_sWr, o_sPut, o_sNever, o_kd_nx, o_kd_rt, o_kd_ex, o_frOf_p, o_frOf_f, o_frOf_b, List.getElem?_cons_zero, List.getElem?_cons_succ, List.map_cons, List.map_nil, List.cons_append, List.nil_append, List.append_nil, List.length_cons, List.length_nil, List.set_cons_zero, List.set_cons_succ, List.replicate, Nat.sub_self, Nat.zero_add, Nat.reduceAdd, Nat.reduceSub, if_true, if_false, Bool.false_eq_true, Bool.not_true, Bool.not_false, true_and, and_true, reduceIte, startE, frz, frz1, wipeE, Option.some.injEq, Sl.sh.injEq, Sl.own.injEq, o_nilT, o_consT, o_par, setD, unB, o_aug, o_augI, o_hN, o_hSub, o_hsNil, o_hsCons, o_hT, o_asgH, o_wrPop, o_dic, o_asT, v_asT_z, v_asT_t, v_asT_i, v_asT_l, o_methR, o_opR, o_ni, c, decide_false, v_addi, v_slicet, z1, z2, c1, c2, fAdd, List.length_map, List.length_append, hs1, hs2]
      exact fin 1 (by decide) (by decide)
  · exact rest

def LotOk (m : Int) (l : List Int) : Prop := l ≠ [] ∧ (l.length : Int) ≤ m ∧ ∀ z ∈ l, 0 ≤ z ∧ z ≤ 1000000
def sp__law_lot : Sps := fun ds Qd _ => ∃ m : Int, ds = [.ptr, .int m] ∧ 0 < m ∧ m ≤ 1000 ∧ ∀ l : List Int, LotOk m l → Qd (.lst (l.map D.int)) true
theorem atI_map {l : List Int} {i : Nat} (h : i < l.length) : atI (l.map D.int) (i : Int) = some (.int l[i]) := by
  rw [atI_get, List.getElem?_map, List.getElem?_eq_getElem h]; rfl
theorem ixN_nat {n i : Nat} (h : i < n) : ixN n (i : Int) = some i := by
  unfold ixN
  rw [if_pos (Int.natCast_nonneg i), if_pos (by omega)]; rfl
def r__law_lot (T : Tx) : RS :=
  (sSeq (sSet 2 (dOp fAdd (dC (.int 1)) (dOwn 2 sp__law_cast (dPos 2 (dCons (dVar 0) (dCons (dVar 1) dNil)))))) (sSeq (sIf (dTest (dOp fEq (dOwn 2 sp__law_cast (dPos 2 (dCons (dVar 0) (dCons (dC (.int 5)) dNil)))) (dC (.int 0)))) (sSeq (sRet (dRev (dCall fSorted (dConsB (dLc (iRange1 (dConsB (dVar 2) dNil)) [0, 2] [5] (gN 5) dYes (dOwn 2 sp__law_cast (dPos 2 (dCons (dVar 0) (dCons (dOp fAdd (dVar 2) (dC (.int 1))) dNil))))) dNil)))) sNext) sNext) (sSeq (sPar [3, 4] (dConsT (dOp fMul (dLst (dCons (dC (.int 0)) dNil)) (dVar 2)) (dConsT (dOp fAdd (dC (.int 1)) (dOwn 2 sp__law_cast (dPos 2 (dCons (dVar 0) (dCons (dC (.int 5)) dNil))))) dNilT))) (sSeq (sFor (iRange1 (dConsB (dVar 2) dNil)) (gN 5) (sSeq (sFor (iRange1 (dConsB (dVar 5) dNil)) (gN 6) (sSeq (sIf (dTest (dOp fLt (dOwn 2 sp__law_cast (dPos 2 (dCons (dVar 0) (dCons (dC (.int 6)) dNil)))) (dVar 4))) (sSeq (sAsgH (dTup (dCons (dOp fAdd (dOp fIxA (dVar 3) (dVar 5)) (dC (.int 1))) (dCons (dOp fAdd (dOp fIxA (dVar 3) (dVar 6)) (dC (.int 1))) dNil))) (hT 2 (hsCons (hSub 3 (dVar 5)) (hsCons (hSub 3 (dVar 6)) hsNil)))) sNext) sNext) sNext)) sNext)) (sSeq (sRet (dRev (dCall fSorted (dConsB (dVar 3) dNil)))) sNext)))))
theorem pure__law_lot (T : Tx) : ∀ ds Qd xd, ds.length = 2 → sp__law_lot ds Qd xd → r__law_lot T (kdOf Qd xd) (startE (["pail", "most", "many", "found", "often", "k", "j"] : List Str) ds) := by
  rintro _ Qd xd _ ⟨m, rfl, h0, hm, q⟩
  have out : ∀ l : List Int, LotOk m l → Qd (.lst ((sortI l).reverse.map D.int)) true := fun l ⟨h1, h2, h3⟩ => q _ ⟨fun e => h1 (by
    have := congrArg List.length e
    rw [List.length_reverse, (sortI_perm l).length_eq] at this
    exact List.eq_nil_of_length_eq_zero this), by rw [List.length_reverse, (sortI_perm l).length_eq]; exact h2, fun z hz => h3 z ((sortI_perm l).mem_iff.mp (List.mem_reverse.mp hz))⟩
  unfold r__law_lot
  refine seq_bar fun K1 hK1 => ?_
  try simp only [o_slot_sh, o_slot_own, o_var, o_c, o_op, o_un, o_nil, o_cons, o_consB, o_star, o_items_l, o_items_t, o_tup, o_lst, o_call, o_if, o_blOf, o_andV, o_orV, o_notV, o_test, o_and, o_or, o_not, o_truth, o_yes, o_chain, o_own, o_pos, o_kw, o_asObj, o_meth, o_cm, o_prop, o_sl, o_nth, o_make, o_tagO_t, o_tagO_f, o_slice, o_no, o_so, o_intOf, o_isi, o_fmt, o_js_nil, o_js_cons, o_m1, o_call1, o_next, o_seq, o_break, o_cont, o_ret, o_retN, o_drop, o_ifS, o_set, o_asg, o_put_p, o_put_f, o_put_b, o_leak_p, o_leak_f, o_leak_b, o_for, o_loop_nil, o_gN, o_gT, o_gL, o_gsNil, o_gsCons, o_any, o_enum, o_range1, o_range2, o_lc, o_lcL_nil, o_rev, o_turn, o_ownIn, o_sWr, o_sPut, o_sNever, o_kd_nx, o_kd_rt, o_kd_ex, o_frOf_p, o_frOf_f, o_frOf_b, List.getElem?_cons_zero, List.getElem?_cons_succ, List.map_cons, List.map_nil, List.cons_append, List.nil_append, List.append_nil, List.length_cons, List.length_nil, List.set_cons_zero, List.set_cons_succ, List.replicate, Nat.sub_self, Nat.zero_add, Nat.reduceAdd, Nat.reduceSub, if_true, if_false, Bool.false_eq_true, Bool.not_true, Bool.not_false, true_and, and_true, reduceIte, startE, frz, frz1, wipeE, Option.some.injEq, Sl.sh.injEq, Sl.own.injEq, o_nilT, o_consT, o_par, setD, unB, o_aug, o_augI, o_hN, o_hSub, o_hsNil, o_hsCons, o_hT, o_asgH, o_wrPop, o_dic, o_asT, v_asT_z, v_asT_t, v_asT_i, v_asT_l, o_methR, o_opR, o_ni]
  refine ⟨_, rfl, h0, by omega, fun r r0 r1 => ?_⟩
  try simp only [o_slot_sh, o_slot_own, o_var, o_c, o_op, o_un, o_nil, o_cons, o_consB, o_star, o_items_l, o_items_t, o_tup, o_lst, o_call, o_if, o_blOf, o_andV, o_orV, o_notV, o_test, o_and, o_or, o_not, o_truth, o_yes, o_chain, o_own, o_pos, o_kw, o_asObj, o_meth, o_cm, o_prop, o_sl, o_nth, o_make, o_tagO_t, o_tagO_f, o_slice, o_no, o_so, o_intOf, o_isi, o_fmt, o_js_nil, o_js_cons, o_m1, o_call1, o_next, o_seq, o_break, o_cont, o_ret, o_retN, o_drop, o_ifS, o_set, o_asg, o_put_p, o_put_f, o_put_b, o_leak_p, o_leak_f, o_leak_b, o_for, o_loop_nil, o_gN, o_gT, o_gL, o_gsNil, o_gsCons, o_any, o_enum, o_range1, o_range2, o_lc, o_lcL_nil, o_rev, o_turn, o_ownIn, o_sWr, o_sPut, o_sNever, o_kd_nx, o_kd_rt, o_kd_ex, o_frOf_p, o_frOf_f, o_frOf_b, List.getElem?_cons_zero, List.getElem?_cons_succ, List.map_cons, List.map_nil, List.cons_append, List.nil_append, List.append_nil, List.length_cons, List.length_nil, List.set_cons_zero, List.set_cons_succ, List.replicate, Nat.sub_self, Nat.zero_add, Nat.reduceAdd, Nat.reduceSub, if_true, if_false, Bool.false_eq_true, Bool.not_true, Bool.not_false, true_and, and_true, reduceIte, startE, frz, frz1, wipeE, Option.some.injEq, Sl.sh.injEq, Sl.own.injEq, o_nilT, o_consT, o_par, setD, unB, o_aug, o_augI, o_hN, o_hSub, o_hsNil, o_hsCons, o_hT, o_asgH, o_wrPop, o_dic, o_asT, v_asT_z, v_asT_t, v_asT_i, v_asT_l, o_methR, o_opR, o_ni, v_addi]
  refine hK1 _ ?_
  try simp only [o_slot_sh, o_slot_own, o_var, o_c, o_op, o_un, o_nil, o_cons, o_consB, o_star, o_items_l, o_items_t, o_tup, o_lst, o_call, o_if, o_blOf, o_andV, o_orV, o_notV, o_test, o_and, o_or, o_not, o_truth, o_yes, o_chain, o_own, o_pos, o_kw, o_asObj, o_meth, o_cm, o_prop, o_sl, o_nth, o_make, o_tagO_t, o_tagO_f, o_slice, o_no, o_so, o_intOf, o_isi, o_fmt, o_js_nil, o_js_cons, o_m1, o_call1, o_next, o_seq, o_break, o_cont, o_ret, o_retN, o_drop, o_ifS, o_set, o_asg, o_put_p, o_put_f, o_put_b, o_leak_p, o_leak_f, o_leak_b, o_for, o_loop_nil, o_gN, o_gT, o_gL, o_gsNil, o_gsCons, o_any, o_enum, o_range1, o_range2, o_lc, o_lcL_nil, o_rev, o_turn, o_ownIn, o_sWr, o_sPut, o_sNever, o_kd_nx, o_kd_rt, o_kd_ex, o_frOf_p, o_frOf_f, o_frOf_b, List.getElem?_cons_zero, List.getElem?_cons_succ, List.map_cons, List.map_nil, List.cons_append, List.nil_append, List.append_nil, List.length_cons, List.length_nil, List.set_cons_zero, List.set_cons_succ, List.replicate, Nat.sub_self, Nat.zero_add, Nat.reduceAdd, Nat.reduceSub, if_true, if_false, Bool.false_eq_true, Bool.not_true, Bool.not_false, true_and, and_true, reduceIte, startE, frz, frz1, wipeE, Option.some.injEq, Sl.sh.injEq, Sl.own.injEq, o_nilT, o_consT, o_par, setD, unB, o_aug, o_augI, o_hN, o_hSub, o_hsNil, o_hsCons, o_hT, o_asgH, o_wrPop, o_dic, o_asT, v_asT_z, v_asT_t, v_asT_i, v_asT_l, o_methR, o_opR, o_ni]
  refine ⟨_, rfl, by decide, by decide, fun c c0 c1 => ?_⟩
  have ir : inR (1 + r) := ⟨by omega, by omega⟩
  have hz : (ups 0 (1 + r).toNat).length ≤ sizeLine := by simp only [ups, List.length_map, List.length_range]; exact small_line (by omega)
  try simp only [o_slot_sh, o_slot_own, o_var, o_c, o_op, o_un, o_nil, o_cons, o_consB, o_star, o_items_l, o_items_t, o_tup, o_lst, o_call, o_if, o_blOf, o_andV, o_orV, o_notV, o_test, o_and, o_or, o_not, o_truth, o_yes, o_chain, o_own, o_pos, o_kw, o_asObj, o_meth, o_cm, o_prop, o_sl, o_nth, o_make, o_tagO_t, o_tagO_f, o_slice, o_no, o_so, o_intOf, o_isi, o_fmt, o_js_nil, o_js_cons, o_m1, o_call1, o_next, o_seq, o_break, o_cont, o_ret, o_retN, o_drop, o_ifS, o_set, o_asg, o_put_p, o_put_f, o_put_b, o_leak_p, o_leak_f, o_leak_b, o_for, o_loop_nil, o_gN, o_gT, o_gL, o_gsNil, o_gsCons, o_any, o_enum, o_range1, o_range2, o_lc, o_lcL_nil, o_rev, o_turn, o_ownIn, o_sWr, o_sPut, o_sNever, o_kd_nx, o_kd_rt, o_kd_ex, o_frOf_p, o_frOf_f, o_frOf_b, List.getElem?_cons_zero, List.getElem?_cons_succ, List.map_cons, List.map_nil, List.cons_append, List.nil_append, List.append_nil, List.length_cons, List.length_nil, List.set_cons_zero, List.set_cons_succ, List.replicate, Nat.sub_self, Nat.zero_add, Nat.reduceAdd, Nat.reduceSub, if_true, if_false, Bool.false_eq_true, Bool.not_true, Bool.not_false, true_and, and_true, reduceIte, startE, frz, frz1, wipeE, Option.some.injEq, Sl.sh.injEq, Sl.own.injEq, o_nilT, o_consT, o_par, setD, unB, o_aug, o_augI, o_hN, o_hSub, o_hsNil, o_hsCons, o_hT, o_asgH, o_wrPop, o_dic, o_asT, v_asT_z, v_asT_t, v_asT_i, v_asT_l, o_methR, o_opR, o_ni, v_eqi]
  split
  · try simp only [o_slot_sh, o_slot_own, o_var, o_c, o_op, o_un, o_nil, o_cons, o_consB, o_star, o_items_l, o_items_t, o_tup, o_lst, o_call, o_if, o_blOf, o_andV, o_orV, o_notV, o_test, o_and, o_or, o_not, o_truth, o_yes, o_chain, o_own, o_pos, o_kw, o_asObj, o_meth, o_cm, o_prop, o_sl, o_nth, o_make, o_tagO_t, o_tagO_f, o_slice, o_no, o_so, o_intOf, o_isi, o_fmt, o_js_nil, o_js_cons, o_m1, o_call1, o_next, o_seq, o_break, o_cont, o_ret, o_retN, o_drop, o_ifS, o_set, o_asg, o_put_p, o_put_f, o_put_b, o_leak_p, o_leak_f, o_leak_b, o_for, o_loop_nil, o_gN, o_gT, o_gL, o_gsNil, o_gsCons, o_any, o_enum, o_range1, o_range2, o_lc, o_lcL_nil, o_rev, o_turn, o_ownIn, o_sWr, o_sPut, o_sNever, o_kd_nx, o_kd_rt, o_kd_ex, o_frOf_p, o_frOf_f, o_frOf_b, List.getElem?_cons_zero, List.getElem?_cons_succ, List.map_cons, List.map_nil, List.cons_append, List.nil_append, List.append_nil, List.length_cons, List.length_nil, List.set_cons_zero, List.set_cons_succ, List.replicate, Nat.sub_self, Nat.zero_add, Nat.reduceAdd, Nat.reduceSub, if_true, if_false, Bool.false_eq_true, Bool.not_true, Bool.not_false, true_and, and_true, reduceIte, startE, frz, frz1, wipeE, Option.some.injEq, Sl.sh.injEq, Sl.own.injEq, o_nilT, o_consT, o_par, setD, unB, o_aug, o_augI, o_hN, o_hSub, o_hsNil, o_hsCons, o_hT, o_asgH, o_wrPop, o_dic, o_asT, v_asT_z, v_asT_t, v_asT_i, v_asT_l, o_methR, o_opR, o_ni, ir, hz]
    unfold ups
    refine lcL_each (fun i : Nat => D.int (0 + (i : Nat))) (fun d => ∃ z, d = .int z ∧ (0 ≤ z ∧ z ≤ 1000000)) (fun i hi R hR => ?_) fun ds hl hp => ?_
    · try simp only [o_slot_sh, o_slot_own, o_var, o_c, o_op, o_un, o_nil, o_cons, o_consB, o_star, o_items_l, o_items_t, o_tup, o_lst, o_call, o_if, o_blOf, o_andV, o_orV, o_notV, o_test, o_and, o_or, o_not, o_truth, o_yes, o_chain, o_own, o_pos, o_kw, o_asObj, o_meth, o_cm, o_prop, o_sl, o_nth, o_make, o_tagO_t, o_tagO_f, o_slice, o_no, o_so, o_intOf, o_isi, o_fmt, o_js_nil, o_js_cons, o_m1, o_call1, o_next, o_seq, o_break, o_cont, o_ret, o_retN, o_drop, o_ifS, o_set, o_asg, o_put_p, o_put_f, o_put_b, o_leak_p, o_leak_f, o_leak_b, o_for, o_loop_nil, o_gN, o_gT, o_gL, o_gsNil, o_gsCons, o_any, o_enum, o_range1, o_range2, o_lc, o_lcL_nil, o_rev, o_turn, o_ownIn, o_sWr, o_sPut, o_sNever, o_kd_nx, o_kd_rt, o_kd_ex, o_frOf_p, o_frOf_f, o_frOf_b, List.getElem?_cons_zero, List.getElem?_cons_succ, List.map_cons, List.map_nil, List.cons_append, List.nil_append, List.append_nil, List.length_cons, List.length_nil, List.set_cons_zero, List.set_cons_succ, List.replicate, Nat.sub_self, Nat.zero_add, Nat.reduceAdd, Nat.reduceSub, if_true, if_false, Bool.false_eq_true, Bool.not_true, Bool.not_false, true_and, and_true, reduceIte, startE, frz, frz1, wipeE, Option.some.injEq, Sl.sh.injEq, Sl.own.injEq, o_nilT, o_consT, o_par, setD, unB, o_aug, o_augI, o_hN, o_hSub, o_hsNil, o_hsCons, o_hT, o_asgH, o_wrPop, o_dic, o_asT, v_asT_z, v_asT_t, v_asT_i, v_asT_l, o_methR, o_opR, o_ni, Nat.reduceLT, Nat.lt_add_one, v_addi]
      refine ⟨_, rfl, by omega, by omega, fun z z0 z1 => ?_⟩
      try simp only [o_slot_sh, o_slot_own, o_var, o_c, o_op, o_un, o_nil, o_cons, o_consB, o_star, o_items_l, o_items_t, o_tup, o_lst, o_call, o_if, o_blOf, o_andV, o_orV, o_notV, o_test, o_and, o_or, o_not, o_truth, o_yes, o_chain, o_own, o_pos, o_kw, o_asObj, o_meth, o_cm, o_prop, o_sl, o_nth, o_make, o_tagO_t, o_tagO_f, o_slice, o_no, o_so, o_intOf, o_isi, o_fmt, o_js_nil, o_js_cons, o_m1, o_call1, o_next, o_seq, o_break, o_cont, o_ret, o_retN, o_drop, o_ifS, o_set, o_asg, o_put_p, o_put_f, o_put_b, o_leak_p, o_leak_f, o_leak_b, o_for, o_loop_nil, o_gN, o_gT, o_gL, o_gsNil, o_gsCons, o_any, o_enum, o_range1, o_range2, o_lc, o_lcL_nil, o_rev, o_turn, o_ownIn, o_sWr, o_sPut, o_sNever, o_kd_nx, o_kd_rt, o_kd_ex, o_frOf_p, o_frOf_f, o_frOf_b, List.getElem?_cons_zero, List.getElem?_cons_succ, List.map_cons, List.map_nil, List.cons_append, List.nil_append, List.append_nil, List.length_cons, List.length_nil, List.set_cons_zero, List.set_cons_succ, List.replicate, Nat.sub_self, Nat.zero_add, Nat.reduceAdd, Nat.reduceSub, if_true, if_false, Bool.false_eq_true, Bool.not_true, Bool.not_false, true_and, and_true, reduceIte, startE, frz, frz1, wipeE, Option.some.injEq, Sl.sh.injEq, Sl.own.injEq, o_nilT, o_consT, o_par, setD, unB, o_aug, o_augI, o_hN, o_hSub, o_hsNil, o_hsCons, o_hT, o_asgH, o_wrPop, o_dic, o_asT, v_asT_z, v_asT_t, v_asT_i, v_asT_l, o_methR, o_opR, o_ni]
      exact hR _ ⟨z, rfl, z0, by omega⟩
    · obtain ⟨ns, rfl, hns⟩ := ints_of hp
      rw [List.length_map, List.length_range] at hl
      try simp only [o_slot_sh, o_slot_own, o_var, o_c, o_op, o_un, o_nil, o_cons, o_consB, o_star, o_items_l, o_items_t, o_tup, o_lst, o_call, o_if, o_blOf, o_andV, o_orV, o_notV, o_test, o_and, o_or, o_not, o_truth, o_yes, o_chain, o_own, o_pos, o_kw, o_asObj, o_meth, o_cm, o_prop, o_sl, o_nth, o_make, o_tagO_t, o_tagO_f, o_slice, o_no, o_so, o_intOf, o_isi, o_fmt, o_js_nil, o_js_cons, o_m1, o_call1, o_next, o_seq, o_break, o_cont, o_ret, o_retN, o_drop, o_ifS, o_set, o_asg, o_put_p, o_put_f, o_put_b, o_leak_p, o_leak_f, o_leak_b, o_for, o_loop_nil, o_gN, o_gT, o_gL, o_gsNil, o_gsCons, o_any, o_enum, o_range1, o_range2, o_lc, o_lcL_nil, o_rev, o_turn, o_ownIn, o_sWr, o_sPut, o_sNever, o_kd_nx, o_kd_rt, o_kd_ex, o_frOf_p, o_frOf_f, o_frOf_b, List.getElem?_cons_zero, List.getElem?_cons_succ, List.map_cons, List.map_nil, List.cons_append, List.nil_append, List.append_nil, List.length_cons, List.length_nil, List.set_cons_zero, List.set_cons_succ, List.replicate, Nat.sub_self, Nat.zero_add, Nat.reduceAdd, Nat.reduceSub, if_true, if_false, Bool.false_eq_true, Bool.not_true, Bool.not_false, true_and, and_true, reduceIte, startE, frz, frz1, wipeE, Option.some.injEq, Sl.sh.injEq, Sl.own.injEq, o_nilT, o_consT, o_par, setD, unB, o_aug, o_augI, o_hN, o_hSub, o_hsNil, o_hsCons, o_hT, o_asgH, o_wrPop, o_dic, o_asT, v_asT_z, v_asT_t, v_asT_i, v_asT_l, o_methR, o_opR, o_ni, List.nil_append, fSorted]
      refine ⟨ns, rfl, ?_⟩
      try simp only [o_slot_sh, o_slot_own, o_var, o_c, o_op, o_un, o_nil, o_cons, o_consB, o_star, o_items_l, o_items_t, o_tup, o_lst, o_call, o_if, o_blOf, o_andV, o_orV, o_notV, o_test, o_and, o_or, o_not, o_truth, o_yes, o_chain, o_own, o_pos, o_kw, o_asObj, o_meth, o_cm, o_prop, o_sl, o_nth, o_make, o_tagO_t, o_tagO_f, o_slice, o_no, o_so, o_intOf, o_isi, o_fmt, o_js_nil, o_js_cons, o_m1, o_call1, o_next, o_seq, o_break, o_cont, o_ret, o_retN, o_drop, o_ifS, o_set, o_asg, o_put_p, o_put_f, o_put_b, o_leak_p, o_leak_f, o_leak_b, o_for, o_loop_nil, o_gN, o_gT, o_gL, o_gsNil, o_gsCons, o_any, o_enum, o_range1, o_range2, o_lc, o_lcL_nil, o_rev, o_turn, o_ownIn, o_sWr, o_sPut, o_sNever, o_kd_nx, o_kd_rt, o_kd_ex, o_frOf_p, o_frOf_f, o_frOf_b, List.getElem?_cons_zero, List.getElem?_cons_succ, List.map_cons, List.map_nil, List.cons_append, List.nil_append, List.append_nil, List.length_cons, List.length_nil, List.set_cons_zero, List.set_cons_succ, List.replicate, Nat.sub_self, Nat.zero_add, Nat.reduceAdd, Nat.reduceSub, if_true, if_false, Bool.false_eq_true, Bool.not_true, Bool.not_false, true_and, and_true, reduceIte, startE, frz, frz1, wipeE, Option.some.injEq, Sl.sh.injEq, Sl.own.injEq, o_nilT, o_consT, o_par, setD, unB, o_aug, o_augI, o_hN, o_hSub, o_hsNil, o_hsCons, o_hT, o_asgH, o_wrPop, o_dic, o_asT, v_asT_z, v_asT_t, v_asT_i, v_asT_l, o_methR, o_opR, o_ni, ← List.map_reverse]
      exact out ns ⟨fun e => by rw [e, List.length_nil] at hl; omega, by omega, hns⟩
  · have mo : (1 + r).toNat ≤ 1000 := by omega
    have hz1 : 1 * (1 + r).toNat ≤ sizeLine := small_line (by omega)
    have rep : (List.replicate (1 + r).toNat [D.int 0]).flatten = (List.replicate (1 + r).toNat (0 : Int)).map D.int := by
      generalize (1 + r).toNat = n
      induction n with
      | zero => rfl
      | succ n ih => simp only [List.replicate_succ, List.flatten_cons, List.map_cons, ih]; rfl
    have i63 : -(2 ^ 63) ≤ 1 + r := by omega
    have j63 : 1 + r < 2 ^ 63 := by omega
    have z1 : (1 : Nat) ≤ sizeLine := by decide
    try simp only [o_slot_sh, o_slot_own, o_var, o_c, o_op, o_un, o_nil, o_cons, o_consB, o_star, o_items_l, o_items_t, o_tup, o_lst, o_call, o_if, o_blOf, o_andV, o_orV, o_notV, o_test, o_and, o_or, o_not, o_truth, o_yes, o_chain, o_own, o_pos, o_kw, o_asObj, o_meth, o_cm, o_prop, o_sl, o_nth, o_make, o_tagO_t, o_tagO_f, o_slice, o_no, o_so, o_intOf, o_isi, o_fmt, o_js_nil, o_js_cons, o_m1, o_call1, o_next, o_seq, o_break, o_cont, o_ret, o_retN, o_drop, o_ifS, o_set, o_asg, o_put_p, o_put_f, o_put_b, o_leak_p, o_leak_f, o_leak_b, o_for, o_loop_nil, o_gN, o_gT, o_gL, o_gsNil, o_gsCons, o_any, o_enum, o_range1, o_range2, o_lc, o_lcL_nil, o_rev, o_turn, o_ownIn, o_sWr, o_sPut, o_sNever, o_kd_nx, o_kd_rt, o_kd_ex, o_frOf_p, o_frOf_f, o_frOf_b, List.getElem?_cons_zero, List.getElem?_cons_succ, List.map_cons, List.map_nil, List.cons_append, List.nil_append, List.append_nil, List.length_cons, List.length_nil, List.set_cons_zero, List.set_cons_succ, List.replicate, Nat.sub_self, Nat.zero_add, Nat.reduceAdd, Nat.reduceSub, if_true, if_false, Bool.false_eq_true, Bool.not_true, Bool.not_false, true_and, and_true, reduceIte, startE, Option.some.injEq, Sl.sh.injEq, Sl.own.injEq, o_nilT, o_consT, o_par, setD, unB, o_aug, o_augI, o_hN, o_hSub, o_hsNil, o_hsCons, o_hT, o_asgH, o_wrPop, o_dic, o_asT, v_asT_z, v_asT_t, v_asT_i, v_asT_l, o_methR, o_opR, o_ni, fMul, z1, i63, j63, hz1, rep]
    refine ⟨_, rfl, by decide, by decide, fun o o0 o1 => ?_⟩
    try simp only [o_slot_sh, o_slot_own, o_var, o_c, o_op, o_un, o_nil, o_cons, o_consB, o_star, o_items_l, o_items_t, o_tup, o_lst, o_call, o_if, o_blOf, o_andV, o_orV, o_notV, o_test, o_and, o_or, o_not, o_truth, o_yes, o_chain, o_own, o_pos, o_kw, o_asObj, o_meth, o_cm, o_prop, o_sl, o_nth, o_make, o_tagO_t, o_tagO_f, o_slice, o_no, o_so, o_intOf, o_isi, o_fmt, o_js_nil, o_js_cons, o_m1, o_call1, o_next, o_seq, o_break, o_cont, o_ret, o_retN, o_drop, o_ifS, o_set, o_asg, o_put_p, o_put_f, o_put_b, o_leak_p, o_leak_f, o_leak_b, o_for, o_loop_nil, o_gN, o_gT, o_gL, o_gsNil, o_gsCons, o_any, o_enum, o_range1, o_range2, o_lc, o_lcL_nil, o_rev, o_turn, o_ownIn, o_sWr, o_sPut, o_sNever, o_kd_nx, o_kd_rt, o_kd_ex, o_frOf_p, o_frOf_f, o_frOf_b, List.getElem?_cons_zero, List.getElem?_cons_succ, List.map_cons, List.map_nil, List.cons_append, List.nil_append, List.append_nil, List.length_cons, List.length_nil, List.set_cons_zero, List.set_cons_succ, List.replicate, Nat.sub_self, Nat.zero_add, Nat.reduceAdd, Nat.reduceSub, if_true, if_false, Bool.false_eq_true, Bool.not_true, Bool.not_false, true_and, and_true, reduceIte, startE, frz, frz1, wipeE, Option.some.injEq, Sl.sh.injEq, Sl.own.injEq, o_nilT, o_consT, o_par, setD, unB, o_aug, o_augI, o_hN, o_hSub, o_hsNil, o_hsCons, o_hT, o_asgH, o_wrPop, o_dic, o_asT, v_asT_z, v_asT_t, v_asT_i, v_asT_l, o_methR, o_opR, o_ni, v_addi, setD, ir]
    refine loop_inv (fun i ρ => ∃ (l : List Int) (s5 s6 : Sl), ρ = [.sh .ptr, .sh (.int m), .sh (.int (1 + r)), .own (.lst (l.map D.int)), .sh (.int (1 + o)), s5, s6] ∧ (l.length : Int) = 1 + r ∧ ∀ z ∈ l, 0 ≤ z ∧ z ≤ (i : Int) * 1000) (n := 0) ⟨List.replicate (1 + r).toNat 0, .no, .no, rfl, by rw [List.length_replicate]; omega, fun z hz => by rw [(List.mem_replicate.mp hz).2]; exact ⟨Int.le_refl _, by omega⟩⟩ (fun d hd i ρ K hi h next => ?_) (fun ρ h => ?_)
    · obtain ⟨l, s5, s6, rfl, hl, hz⟩ := h
      obtain ⟨kk, hk, rfl⟩ := List.mem_map.mp hd
      have hk := List.mem_range.mp hk
      rw [Int.zero_add] at *
      have ik : inR (kk : Nat) := ⟨by omega, by omega⟩
      try simp only [o_slot_sh, o_slot_own, o_var, o_c, o_op, o_un, o_nil, o_cons, o_consB, o_star, o_items_l, o_items_t, o_tup, o_lst, o_call, o_if, o_blOf, o_andV, o_orV, o_notV, o_test, o_and, o_or, o_not, o_truth, o_yes, o_chain, o_own, o_pos, o_kw, o_asObj, o_meth, o_cm, o_prop, o_sl, o_nth, o_make, o_tagO_t, o_tagO_f, o_slice, o_no, o_so, o_intOf, o_isi, o_fmt, o_js_nil, o_js_cons, o_m1, o_call1, o_next, o_seq, o_break, o_cont, o_ret, o_retN, o_drop, o_ifS, o_set, o_asg, o_put_p, o_put_f, o_put_b, o_leak_p, o_leak_f, o_leak_b, o_for, o_loop_nil, o_gN, o_gT, o_gL, o_gsNil, o_gsCons, o_any, o_enum, o_range1, o_range2, o_lc, o_lcL_nil, o_rev, o_turn, o_ownIn, o_sWr, o_sPut, o_sNever, o_kd_nx, o_kd_rt, o_kd_ex, o_frOf_p, o_frOf_f, o_frOf_b, List.getElem?_cons_zero, List.getElem?_cons_succ, List.map_cons, List.map_nil, List.cons_append, List.nil_append, List.append_nil, List.length_cons, List.length_nil, List.set_cons_zero, List.set_cons_succ, List.replicate, Nat.sub_self, Nat.zero_add, Nat.reduceAdd, Nat.reduceSub, if_true, if_false, Bool.false_eq_true, Bool.not_true, Bool.not_false, true_and, and_true, reduceIte, startE, frz, frz1, wipeE, Option.some.injEq, Sl.sh.injEq, Sl.own.injEq, o_nilT, o_consT, o_par, setD, unB, o_aug, o_augI, o_hN, o_hSub, o_hsNil, o_hsCons, o_hT, o_asgH, o_wrPop, o_dic, o_asT, v_asT_z, v_asT_t, v_asT_i, v_asT_l, o_methR, o_opR, o_ni, Nat.reduceLT, Nat.lt_add_one, ik]
      refine loop_inv (fun j ρ => ∃ (l : List Int) (s6 : Sl), ρ = [.sh .ptr, .sh (.int m), .sh (.int (1 + r)), .own (.lst (l.map D.int)), .sh (.int (1 + o)), .sh (.int (kk : Nat)), s6] ∧ (l.length : Int) = 1 + r ∧ ∀ z ∈ l, 0 ≤ z ∧ z ≤ (i : Int) * 1000 + j) (n := 0) ⟨l, s6, rfl, hl, fun z hz' => by have := hz z hz'; omega⟩ (fun d hd j ρ K2 hj h next2 => ?_) (fun ρ h => ?_)
      · obtain ⟨l, s6, rfl, hl, hz⟩ := h
        obtain ⟨jj, hjj, rfl⟩ := List.mem_map.mp hd
        have hjj := List.mem_range.mp hjj
        rw [Int.toNat_natCast] at hjj
        rw [Int.zero_add] at *
        have kl : kk < l.length := by omega
        have jl : jj < l.length := by omega
        have stay : K2 [.sh .ptr, .sh (.int m), .sh (.int (1 + r)), .own (.lst (l.map D.int)), .sh (.int (1 + o)), .sh (.int (kk : Nat)), .sh (.int (jj : Nat))] := next2 _ ⟨l, _, rfl, hl, fun z hz' => by have := hz z hz'; omega⟩
        try simp only [o_slot_sh, o_slot_own, o_var, o_c, o_op, o_un, o_nil, o_cons, o_consB, o_star, o_items_l, o_items_t, o_tup, o_lst, o_call, o_if, o_blOf, o_andV, o_orV, o_notV, o_test, o_and, o_or, o_not, o_truth, o_yes, o_chain, o_own, o_pos, o_kw, o_asObj, o_meth, o_cm, o_prop, o_sl, o_nth, o_make, o_tagO_t, o_tagO_f, o_slice, o_no, o_so, o_intOf, o_isi, o_fmt, o_js_nil, o_js_cons, o_m1, o_call1, o_next, o_seq, o_break, o_cont, o_ret, o_retN, o_drop, o_ifS, o_set, o_asg, o_put_p, o_put_f, o_put_b, o_leak_p, o_leak_f, o_leak_b, o_for, o_loop_nil, o_gN, o_gT, o_gL, o_gsNil, o_gsCons, o_any, o_enum, o_range1, o_range2, o_lc, o_lcL_nil, o_rev, o_turn, o_ownIn, o_sWr, o_sPut, o_sNever, o_kd_nx, o_kd_rt, o_kd_ex, o_frOf_p, o_frOf_f, o_frOf_b, List.getElem?_cons_zero, List.getElem?_cons_succ, List.map_cons, List.map_nil, List.cons_append, List.nil_append, List.append_nil, List.length_cons, List.length_nil, List.set_cons_zero, List.set_cons_succ, List.replicate, Nat.sub_self, Nat.zero_add, Nat.reduceAdd, Nat.reduceSub, if_true, if_false, Bool.false_eq_true, Bool.not_true, Bool.not_false, true_and, and_true, reduceIte, startE, frz, frz1, wipeE, Option.some.injEq, Sl.sh.injEq, Sl.own.injEq, o_nilT, o_consT, o_par, setD, unB, o_aug, o_augI, o_hN, o_hSub, o_hsNil, o_hsCons, o_hT, o_asgH, o_wrPop, o_dic, o_asT, v_asT_z, v_asT_t, v_asT_i, v_asT_l, o_methR, o_opR, o_ni, Nat.reduceLT, Nat.lt_add_one]
        refine ⟨_, rfl, by decide, by decide, fun c c0 c1 => ?_⟩
        have x1 : ∀ k : D → Tag → Prop, fIxA (.lst (l.map D.int)) (.int (kk : Nat)) k = k (.int l[kk]) .p := fun k => v_ixl (atI_map kl)
        have x2 : ∀ k : D → Tag → Prop, fIxA (.lst (l.map D.int)) (.int (jj : Nat)) k = k (.int l[jj]) .p := fun k => v_ixl (atI_map jl)
        have n1 : ixN (l.map D.int).length (kk : Nat) = some kk := ixN_nat (by rw [List.length_map]; exact kl)
        have n2 : ixN ((l.map D.int).set kk (.int (l[kk] + 1))).length (jj : Nat) = some jj := ixN_nat (by rw [List.length_set, List.length_map]; exact jl)
        have z2 : (2 : Nat) ≤ sizeLine := by decide
        by_cases cc : c < 1 + o
        · try simp only [o_slot_sh, o_slot_own, o_var, o_c, o_op, o_un, o_nil, o_cons, o_consB, o_star, o_items_l, o_items_t, o_tup, o_lst, o_call, o_if, o_blOf, o_andV, o_orV, o_notV, o_test, o_and, o_or, o_not, o_truth, o_yes, o_chain, o_own, o_pos, o_kw, o_asObj, o_meth, o_cm, o_prop, o_sl, o_nth, o_make, o_tagO_t, o_tagO_f, o_slice, o_no, o_so, o_intOf, o_isi, o_fmt, o_js_nil, o_js_cons, o_m1, o_call1, o_next, o_seq, o_break, o_cont, o_ret, o_retN, o_drop, o_ifS, o_set, o_asg, o_put_p, o_put_f, o_put_b, o_leak_p, o_leak_f, o_leak_b, o_for, o_loop_nil, o_gN, o_gT, o_gL, o_gsNil, o_gsCons, o_any, o_enum, o_range1, o_range2, o_lc, o_lcL_nil, o_rev, o_turn, o_ownIn, o_sWr, o_sPut, o_sNever, o_kd_nx, o_kd_rt, o_kd_ex, o_frOf_p, o_frOf_f, o_frOf_b, List.getElem?_cons_zero, List.getElem?_cons_succ, List.map_cons, List.map_nil, List.cons_append, List.nil_append, List.append_nil, List.length_cons, List.length_nil, List.set_cons_zero, List.set_cons_succ, List.replicate, Nat.sub_self, Nat.zero_add, Nat.reduceAdd, Nat.reduceSub, if_true, if_false, Bool.false_eq_true, Bool.not_true, Bool.not_false, true_and, and_true, reduceIte, startE, frz, frz1, wipeE, Option.some.injEq, Sl.sh.injEq, Sl.own.injEq, o_nilT, o_consT, o_par, setD, unB, o_aug, o_augI, o_hN, o_hSub, o_hsNil, o_hsCons, o_hT, o_asgH, o_wrPop, o_dic, o_asT, v_asT_z, v_asT_t, v_asT_i, v_asT_l, o_methR, o_opR, o_ni, v_ord, cc, decide_true, x1, x2, v_addi, z2, ownIn, putAt]
          refine ⟨kk, n1, jj, n2, ?_⟩
          have e : ((l.map D.int).set kk (.int (l[kk] + 1))).set jj (.int (l[jj] + 1)) = ((l.set kk (l[kk] + 1)).set jj (l[jj] + 1)).map D.int := by rw [List.map_set, List.map_set]
          rw [e]
          have b1 := hz _ (List.getElem_mem kl)
          have b2 := hz _ (List.getElem_mem jl)
          refine next2 _ ⟨_, _, rfl, by rw [List.length_set, List.length_set]; exact hl, fun z hz' => ?_⟩
          rcases List.mem_or_eq_of_mem_set hz' with hz' | rfl
          · rcases List.mem_or_eq_of_mem_set hz' with hz' | rfl
            · have := hz z hz'; omega
            · omega
          · omega
        · try simp only [o_slot_sh, o_slot_own, o_var, o_c, o_op, o_un, o_nil, o_cons, o_consB, o_star, o_items_l, o_items_t, o_tup, o_lst, o_call, o_if, o_blOf, o_andV, o_orV, o_notV, o_test, o_and, o_or, o_not, o_truth, o_yes, o_chain, o_own, o_pos, o_kw, o_asObj, o_meth, o_cm, o_prop, o_sl, o_nth, o_make, o_tagO_t, o_tagO_f, o_slice, o_no, o_so, o_intOf, o_isi, o_fmt, o_js_nil, o_js_cons, o_m1, o_call1, o_next, o_seq, o_break, o_cont, o_ret, o_retN, o_drop, o_ifS, o_set, o_asg, o_put_p, o_put_f, o_put_b, o_leak_p, o_leak_f, o_leak_b, o_for, o_loop_nil, o_gN, o_gT, o_gL, o_gsNil, o_gsCons, o_any, o_enum, o_range1, o_range2, o_lc, o_lcL_nil, o_rev, o_turn, o_ownIn, o_sWr, o_sPut, o_sNever, o_kd_nx, o_kd_rt, o_kd_ex, o_frOf_p, o_frOf_f, o_frOf_b, List.getElem?_cons_zero, List.getElem?_cons_succ, List.map_cons, List.map_nil, List.cons_append, List.nil_append, List.append_nil, List.length_cons, List.length_nil, List.set_cons_zero, List.set_cons_succ, List.replicate, Nat.sub_self, Nat.zero_add, Nat.reduceAdd, Nat.reduceSub, if_true, if_false, Bool.false_eq_true, Bool.not_true, Bool.not_false, true_and, and_true, reduceIte, startE, frz, frz1, wipeE, Option.some.injEq, Sl.sh.injEq, Sl.own.injEq, o_nilT, o_consT, o_par, setD, unB, o_aug, o_augI, o_hN, o_hSub, o_hsNil, o_hsCons, o_hT, o_asgH, o_wrPop, o_dic, o_asT, v_asT_z, v_asT_t, v_asT_i, v_asT_l, o_methR, o_opR, o_ni, v_ord, cc, decide_false]
          exact stay
      · obtain ⟨l, s6, rfl, hl, hz⟩ := h
        have hu : (ups 0 ((kk : Nat) : Int).toNat).length = kk := by simp [ups]
        rw [hu] at hz
        refine next _ ⟨l, _, _, rfl, hl, fun z hz' => ?_⟩
        have := hz z hz'
        omega
    · obtain ⟨l, s5, s6, rfl, hl, hz⟩ := h
      have hu : (ups 0 (1 + r).toNat).length = (1 + r).toNat := by simp [ups]
      rw [hu] at hz
      try simp only [o_slot_sh, o_slot_own, o_var, o_c, o_op, o_un, o_nil, o_cons, o_consB, o_star, o_items_l, o_items_t, o_tup, o_lst, o_call, o_if, o_blOf, o_andV, o_orV, o_notV, o_test, o_and, o_or, o_not, o_truth, o_yes, o_chain, o_own, o_pos, o_kw, o_asObj, o_meth, o_cm, o_prop, o_sl, o_nth, o_make, o_tagO_t, o_tagO_f, o_slice, o_no, o_so, o_intOf, o_isi, o_fmt, o_js_nil, o_js_cons, o_m1, o_call1, o_next, o_seq, o_break, o_cont, o_ret, o_retN, o_drop, o_ifS, o_set, o_asg, o_put_p, o_put_f, o_put_b, o_leak_p, o_leak_f, o_leak_b, o_for, o_loop_nil, o_gN, o_gT, o_gL, o_gsNil, o_gsCons, o_any, o_enum, o_range1, o_range2, o_lc, o_lcL_nil, o_rev, o_turn, o_ownIn, o_sWr, o_sPut, o_sNever, o_kd_nx, o_kd_rt, o_kd_ex, o_frOf_p, o_frOf_f, o_frOf_b, List.getElem?_cons_zero, List.getElem?_cons_succ, List.map_cons, List.map_nil, List.cons_append, List.nil_append, List.append_nil, List.length_cons, List.length_nil, List.set_cons_zero, List.set_cons_succ, List.replicate, Nat.sub_self, Nat.zero_add, Nat.reduceAdd, Nat.reduceSub, if_true, if_false, Bool.false_eq_true, Bool.not_true, Bool.not_false, true_and, and_true, reduceIte, startE, frz, frz1, wipeE, Option.some.injEq, Sl.sh.injEq, Sl.own.injEq, o_nilT, o_consT, o_par, setD, unB, o_aug, o_augI, o_hN, o_hSub, o_hsNil, o_hsCons, o_hT, o_asgH, o_wrPop, o_dic, o_asT, v_asT_z, v_asT_t, v_asT_i, v_asT_l, o_methR, o_opR, o_ni, fSorted]
      refine ⟨l, rfl, ?_⟩
      try simp only [o_slot_sh, o_slot_own, o_var, o_c, o_op, o_un, o_nil, o_cons, o_consB, o_star, o_items_l, o_items_t, o_tup, o_lst, o_call, o_if, o_blOf, o_andV, o_orV, o_notV, o_test, o_and, o_or, o_not, o_truth, o_yes, o_chain, o_own, o_pos, o_kw, o_asObj, o_meth, o_cm, o_prop, o_sl, o_nth, o_make, o_tagO_t, o_tagO_f, o_slice, o_no, o_so, o_intOf, o_isi, o_fmt, o_js_nil, o_js_cons, o_m1, o_call1, o_next, o_seq, o_break, o_cont, o_ret, o_retN, o_drop, o_ifS, o_set, o_asg, o_put_p, o_put_f, o_put_b, o_leak_p, o_leak_f, o_leak_b, o_for, o_loop_nil, o_gN, o_gT, o_gL, o_gsNil, o_gsCons, o_any, o_enum, o_range1, o_range2, o_lc, o_lcL_nil, o_rev, o_turn, o_ownIn, o_sWr, o_sPut, o_sNever, o_kd_nx, o_kd_rt, o_kd_ex, o_frOf_p, o_frOf_f, o_frOf_b, List.getElem?_cons_zero, List.getElem?_cons_succ, List.map_cons, List.map_nil, List.cons_append, List.nil_append, List.append_nil, List.length_cons, List.length_nil, List.set_cons_zero, List.set_cons_succ, List.replicate, Nat.sub_self, Nat.zero_add, Nat.reduceAdd, Nat.reduceSub, if_true, if_false, Bool.false_eq_true, Bool.not_true, Bool.not_false, true_and, and_true, reduceIte, startE, frz, frz1, wipeE, Option.some.injEq, Sl.sh.injEq, Sl.own.injEq, o_nilT, o_consT, o_par, setD, unB, o_aug, o_augI, o_hN, o_hSub, o_hsNil, o_hsCons, o_hT, o_asgH, o_wrPop, o_dic, o_asT, v_asT_z, v_asT_t, v_asT_i, v_asT_l, o_methR, o_opR, o_ni, ← List.map_reverse]
      exact out l ⟨fun e => by rw [e, List.length_nil] at hl; omega, by omega, fun z hz' => by have := hz z hz'; omega⟩

def sp_check_listed : Sps := fun ds Qd _ => ∃ l : List Int, ds = [.tup (l.map D.int)] ∧ GoodLot l ∧ Qd .non false
def r_check_listed (T : Tx) : RS :=
  (sSeq (sIf (dOr (dNot (dTruth (dIsi (kindD bTup noOb) (dVar 0)))) (dTest (dOp fEq (dCall fLen (dConsB (dVar 0) dNil)) (dC (.int 0))))) (sSeq sNever sNext) sNext) (sSeq (sFor (iEnumD (dVar 0)) (gT 2 (gsCons (gN 1) (gsCons (gN 2) gsNil))) (sSeq (sIf (dOr (dTest (dOp fEq (dVar 1) (dC (.int 1000)))) (dOr (dNot (dTruth (dOwn 1 sp_is_count (dPos 1 (dCons (dVar 2) dNil))))) (dTest (dOp fGt (dVar 2) (dC (.int 10000000000000000000000000000000)))))) (sSeq sNever sNext) sNext) sNext)) (sSeq (sSet 3 (dLst dNil)) (sSeq (sFor (iEnumD (dVar 0)) (gT 2 (gsCons (gN 1) (gsCons (gN 2) gsNil))) (sSeq (sIf (dTest (dOp (fInA not) (dVar 2) (dVar 3))) (sSeq (sWr 3 wApp (dCons (dVar 2) dNil)) sNext) sNext) (sSeq (sIf (dTest (dOp fGt (dCall fLen (dConsB (dVar 3) dNil)) (dC (.int 10)))) (sSeq sNever sNext) sNext) sNext))) sNext))))
theorem pure_check_listed (T : Tx) : ∀ ds Qd xd, ds.length = 1 → sp_check_listed ds Qd xd → r_check_listed T (kdOf Qd xd) (startE (["value", "at", "degree", "seen"] : List Str) ds) := by
  rintro _ Qd xd _ ⟨l, rfl, hl, q⟩
  have h0 : (((l.map D.int).length : Int) == 0) = false := by
    have := hl.ne
    cases l with
    | nil => exact (this rfl).elim
    | cons p l => simp only [List.map_cons, List.length_cons]; exact beq_eq_false_iff_ne.mpr (by omega)
  have z0 : (0 : Nat) ≤ sizeLine := by decide
  have mem : ∀ d ∈ numbered (l.map D.int), ∃ (i : Nat) (z : Int), i < l.length ∧ z ∈ l ∧ d = .tup [.int (i : Nat), .int z] := fun d hd => by
    unfold numbered at hd
    obtain ⟨⟨a, i⟩, hp, rfl⟩ := List.mem_map.mp hd
    have h1 := List.mem_zipIdx hp
    obtain ⟨_, h2, h3⟩ := h1
    rw [List.length_map] at h2
    have hi : i < l.length := by omega
    refine ⟨i, l[i], hi, List.getElem_mem hi, ?_⟩
    simp only [Nat.sub_zero, List.getElem_map] at h3
    rw [h3]
  simp only [r_check_listed, o_slot_sh, o_slot_own, o_var, o_c, o_op, o_un, o_nil, o_cons, o_consB, o_star, o_items_l, o_items_t, o_tup, o_lst, o_call, o_if, o_blOf, o_andV, o_orV, o_notV, o_test, o_and, o_or, o_not, o_truth, o_yes, o_chain, o_own, o_pos, o_kw, o_asObj, o_meth, o_cm, o_prop, o_sl, o_nth, o_make, o_tagO_t, o_tagO_f, o_slice, o_no, o_so, o_intOf, o_isi, o_fmt, o_js_nil, o_js_cons, o_m1, o_call1, o_next, o_seq, o_break, o_cont, o_ret, o_retN, o_drop, o_ifS, o_set, o_asg, o_put_p, o_put_f, o_put_b, o_leak_p, o_leak_f, o_leak_b, o_for, o_loop_nil, o_gN, o_gT, o_gL, o_gsNil, o_gsCons, o_any, o_enum, o_range1, o_range2, o_lc, o_lcL_nil, o_rev, o_turn, o_ownIn, o_sWr, o_sPut, o_sNever, o_kd_nx, o_kd_rt, o_kd_ex, o_frOf_p, o_frOf_f, o_frOf_b, List.getElem?_cons_zero, List.getElem?_cons_succ, List.map_cons, List.map_nil, List.cons_append, List.nil_append, List.append_nil, List.length_cons, List.length_nil, List.set_cons_zero, List.set_cons_succ, List.replicate, Nat.sub_self, Nat.zero_add, Nat.reduceAdd, Nat.reduceSub, if_true, if_false, Bool.false_eq_true, Bool.not_true, Bool.not_false, true_and, and_true, reduceIte, startE, frz, frz1, wipeE, Option.some.injEq, Sl.sh.injEq, Sl.own.injEq, o_nilT, o_consT, o_par, setD, unB, o_aug, o_augI, o_hN, o_hSub, o_hsNil, o_hsCons, o_hT, o_asgH, o_wrPop, o_dic, o_asT, v_asT_z, v_asT_t, v_asT_i, v_asT_l, o_methR, o_opR, o_ni, kindD, exists_eq_left', v_truth_b, v_lent, v_eqi, h0]
  refine loop_inv (fun i ρ => ∃ s1 s2, ρ = [.sh (.tup (l.map D.int)), s1, s2, .no]) (n := 0) ⟨_, _, rfl⟩ (fun d hd i ρ K hi h next => ?_) (fun ρ h => ?_)
  · obtain ⟨s1, s2, rfl⟩ := h
    obtain ⟨j, z, hj, hz, rfl⟩ := mem d hd
    have hr := hl.rng z hz
    have hle := hl.len
    have c1 : (((j : Nat) : Int) == 1000) = false := beq_eq_false_iff_ne.mpr (by omega)
    have c2 : ¬ (10000000000000000000000000000000 : Int) < z := by omega
    simp only [o_slot_sh, o_slot_own, o_var, o_c, o_op, o_un, o_nil, o_cons, o_consB, o_star, o_items_l, o_items_t, o_tup, o_lst, o_call, o_if, o_blOf, o_andV, o_orV, o_notV, o_test, o_and, o_or, o_not, o_truth, o_yes, o_chain, o_own, o_pos, o_kw, o_asObj, o_meth, o_cm, o_prop, o_sl, o_nth, o_make, o_tagO_t, o_tagO_f, o_slice, o_no, o_so, o_intOf, o_isi, o_fmt, o_js_nil, o_js_cons, o_m1, o_call1, o_next, o_seq, o_break, o_cont, o_ret, o_retN, o_drop, o_ifS, o_set, o_asg, o_put_p, o_put_f, o_put_b, o_leak_p, o_leak_f, o_leak_b, o_for, o_loop_nil, o_gN, o_gT, o_gL, o_gsNil, o_gsCons, o_any, o_enum, o_range1, o_range2, o_lc, o_lcL_nil, o_rev, o_turn, o_ownIn, o_sWr, o_sPut, o_sNever, o_kd_nx, o_kd_rt, o_kd_ex, o_frOf_p, o_frOf_f, o_frOf_b, List.getElem?_cons_zero, List.getElem?_cons_succ, List.map_cons, List.map_nil, List.cons_append, List.nil_append, List.append_nil, List.length_cons, List.length_nil, List.set_cons_zero, List.set_cons_succ, List.replicate, Nat.sub_self, Nat.zero_add, Nat.reduceAdd, Nat.reduceSub, if_true, if_false, Bool.false_eq_true, Bool.not_true, Bool.not_false, true_and, and_true, reduceIte, startE, frz, frz1, wipeE, Option.some.injEq, Sl.sh.injEq, Sl.own.injEq, o_nilT, o_consT, o_par, setD, unB, o_aug, o_augI, o_hN, o_hSub, o_hsNil, o_hsCons, o_hT, o_asgH, o_wrPop, o_dic, o_asT, v_asT_z, v_asT_t, v_asT_i, v_asT_l, o_methR, o_opR, o_ni, Nat.reduceLT, Nat.lt_add_one, v_eqi, c1, sp_is_count, cntQ]
    refine ⟨_, _, rfl, rfl, ?_⟩
    simp only [o_slot_sh, o_slot_own, o_var, o_c, o_op, o_un, o_nil, o_cons, o_consB, o_star, o_items_l, o_items_t, o_tup, o_lst, o_call, o_if, o_blOf, o_andV, o_orV, o_notV, o_test, o_and, o_or, o_not, o_truth, o_yes, o_chain, o_own, o_pos, o_kw, o_asObj, o_meth, o_cm, o_prop, o_sl, o_nth, o_make, o_tagO_t, o_tagO_f, o_slice, o_no, o_so, o_intOf, o_isi, o_fmt, o_js_nil, o_js_cons, o_m1, o_call1, o_next, o_seq, o_break, o_cont, o_ret, o_retN, o_drop, o_ifS, o_set, o_asg, o_put_p, o_put_f, o_put_b, o_leak_p, o_leak_f, o_leak_b, o_for, o_loop_nil, o_gN, o_gT, o_gL, o_gsNil, o_gsCons, o_any, o_enum, o_range1, o_range2, o_lc, o_lcL_nil, o_rev, o_turn, o_ownIn, o_sWr, o_sPut, o_sNever, o_kd_nx, o_kd_rt, o_kd_ex, o_frOf_p, o_frOf_f, o_frOf_b, List.getElem?_cons_zero, List.getElem?_cons_succ, List.map_cons, List.map_nil, List.cons_append, List.nil_append, List.append_nil, List.length_cons, List.length_nil, List.set_cons_zero, List.set_cons_succ, List.replicate, Nat.sub_self, Nat.zero_add, Nat.reduceAdd, Nat.reduceSub, if_true, if_false, Bool.false_eq_true, Bool.not_true, Bool.not_false, true_and, and_true, reduceIte, startE, frz, frz1, wipeE, Option.some.injEq, Sl.sh.injEq, Sl.own.injEq, o_nilT, o_consT, o_par, setD, unB, o_aug, o_augI, o_hN, o_hSub, o_hsNil, o_hsCons, o_hT, o_asgH, o_wrPop, o_dic, o_asT, v_asT_z, v_asT_t, v_asT_i, v_asT_l, o_methR, o_opR, o_ni, hr.1, decide_true, v_ord, c2, decide_false]
    exact next _ ⟨_, _, rfl⟩
  · obtain ⟨s1, s2, rfl⟩ := h
    try simp only [o_slot_sh, o_slot_own, o_var, o_c, o_op, o_un, o_nil, o_cons, o_consB, o_star, o_items_l, o_items_t, o_tup, o_lst, o_call, o_if, o_blOf, o_andV, o_orV, o_notV, o_test, o_and, o_or, o_not, o_truth, o_yes, o_chain, o_own, o_pos, o_kw, o_asObj, o_meth, o_cm, o_prop, o_sl, o_nth, o_make, o_tagO_t, o_tagO_f, o_slice, o_no, o_so, o_intOf, o_isi, o_fmt, o_js_nil, o_js_cons, o_m1, o_call1, o_next, o_seq, o_break, o_cont, o_ret, o_retN, o_drop, o_ifS, o_set, o_asg, o_put_p, o_put_f, o_put_b, o_leak_p, o_leak_f, o_leak_b, o_for, o_loop_nil, o_gN, o_gT, o_gL, o_gsNil, o_gsCons, o_any, o_enum, o_range1, o_range2, o_lc, o_lcL_nil, o_rev, o_turn, o_ownIn, o_sWr, o_sPut, o_sNever, o_kd_nx, o_kd_rt, o_kd_ex, o_frOf_p, o_frOf_f, o_frOf_b, List.getElem?_cons_zero, List.getElem?_cons_succ, List.map_cons, List.map_nil, List.cons_append, List.nil_append, List.append_nil, List.length_cons, List.length_nil, List.set_cons_zero, List.set_cons_succ, List.replicate, Nat.sub_self, Nat.zero_add, Nat.reduceAdd, Nat.reduceSub, if_true, if_false, Bool.false_eq_true, Bool.not_true, Bool.not_false, true_and, and_true, reduceIte, startE, frz, frz1, wipeE, Option.some.injEq, Sl.sh.injEq, Sl.own.injEq, o_nilT, o_consT, o_par, setD, unB, o_aug, o_augI, o_hN, o_hSub, o_hsNil, o_hsCons, o_hT, o_asgH, o_wrPop, o_dic, o_asT, v_asT_z, v_asT_t, v_asT_i, v_asT_l, o_methR, o_opR, o_ni, z0]
    refine loop_inv (fun i ρ => ∃ s1 s2 m, ρ = [.sh (.tup (l.map D.int)), s1, s2, .own (.lst (m.map D.int))] ∧ m.Nodup ∧ ∀ z ∈ m, z ∈ l) (n := 0) ⟨_, _, [], rfl, List.nodup_nil, by simp⟩ (fun d hd i ρ K hi h next => ?_) (fun ρ h => ?_)
    · obtain ⟨s1, s2, m, rfl, nd, hm⟩ := h
      obtain ⟨j, z, hj, hz, rfl⟩ := mem d hd
      have few := hl.few m nd hm
      have hi' : ((m.map D.int).any fun y => eqD y (.int z)) = decide (z ∈ m) := by
        rw [List.any_map]
        by_cases c : z ∈ m
        · rw [decide_eq_true c]
          exact List.any_eq_true.mpr ⟨z, c, by show (z == z) = true; simp⟩
        · rw [decide_eq_false c]
          refine List.any_eq_false.mpr fun y hy => ?_
          show ¬ (y == z) = true
          simp only [beq_iff_eq]
          exact fun e => c (by rw [← e]; exact hy)
      have ok : okEq (.lst (m.map D.int)) := okEq_ints m
      try simp only [o_slot_sh, o_slot_own, o_var, o_c, o_op, o_un, o_nil, o_cons, o_consB, o_star, o_items_l, o_items_t, o_tup, o_lst, o_call, o_if, o_blOf, o_andV, o_orV, o_notV, o_test, o_and, o_or, o_not, o_truth, o_yes, o_chain, o_own, o_pos, o_kw, o_asObj, o_meth, o_cm, o_prop, o_sl, o_nth, o_make, o_tagO_t, o_tagO_f, o_slice, o_no, o_so, o_intOf, o_isi, o_fmt, o_js_nil, o_js_cons, o_m1, o_call1, o_next, o_seq, o_break, o_cont, o_ret, o_retN, o_drop, o_ifS, o_set, o_asg, o_put_p, o_put_f, o_put_b, o_leak_p, o_leak_f, o_leak_b, o_for, o_loop_nil, o_gN, o_gT, o_gL, o_gsNil, o_gsCons, o_any, o_enum, o_range1, o_range2, o_lc, o_lcL_nil, o_rev, o_turn, o_ownIn, o_sWr, o_sPut, o_sNever, o_kd_nx, o_kd_rt, o_kd_ex, o_frOf_p, o_frOf_f, o_frOf_b, List.getElem?_cons_zero, List.getElem?_cons_succ, List.map_cons, List.map_nil, List.cons_append, List.nil_append, List.append_nil, List.length_cons, List.length_nil, List.set_cons_zero, List.set_cons_succ, List.replicate, Nat.sub_self, Nat.zero_add, Nat.reduceAdd, Nat.reduceSub, if_true, if_false, Bool.false_eq_true, Bool.not_true, Bool.not_false, true_and, and_true, reduceIte, startE, frz, frz1, wipeE, Option.some.injEq, Sl.sh.injEq, Sl.own.injEq, o_nilT, o_consT, o_par, setD, unB, o_aug, o_augI, o_hN, o_hSub, o_hsNil, o_hsCons, o_hT, o_asgH, o_wrPop, o_dic, o_asT, v_asT_z, v_asT_t, v_asT_i, v_asT_l, o_methR, o_opR, o_ni, Nat.reduceLT, Nat.lt_add_one, fInA, fIn, okEq_i, ok, hi']
      by_cases c : z ∈ m
      · have c10 : ¬ (10 : Int) < ((m.length : Nat) : Int) := by omega
        try simp only [c, decide_true, o_slot_sh, o_slot_own, o_var, o_c, o_op, o_un, o_nil, o_cons, o_consB, o_star, o_items_l, o_items_t, o_tup, o_lst, o_call, o_if, o_blOf, o_andV, o_orV, o_notV, o_test, o_and, o_or, o_not, o_truth, o_yes, o_chain, o_own, o_pos, o_kw, o_asObj, o_meth, o_cm, o_prop, o_sl, o_nth, o_make, o_tagO_t, o_tagO_f, o_slice, o_no, o_so, o_intOf, o_isi, o_fmt, o_js_nil, o_js_cons, o_m1, o_call1, o_next, o_seq, o_break, o_cont, o_ret, o_retN, o_drop, o_ifS, o_set, o_asg, o_put_p, o_put_f, o_put_b, o_leak_p, o_leak_f, o_leak_b, o_for, o_loop_nil, o_gN, o_gT, o_gL, o_gsNil, o_gsCons, o_any, o_enum, o_range1, o_range2, o_lc, o_lcL_nil, o_rev, o_turn, o_ownIn, o_sWr, o_sPut, o_sNever, o_kd_nx, o_kd_rt, o_kd_ex, o_frOf_p, o_frOf_f, o_frOf_b, List.getElem?_cons_zero, List.getElem?_cons_succ, List.map_cons, List.map_nil, List.cons_append, List.nil_append, List.append_nil, List.length_cons, List.length_nil, List.set_cons_zero, List.set_cons_succ, List.replicate, Nat.sub_self, Nat.zero_add, Nat.reduceAdd, Nat.reduceSub, if_true, if_false, Bool.false_eq_true, Bool.not_true, Bool.not_false, true_and, and_true, reduceIte, startE, frz, frz1, wipeE, Option.some.injEq, Sl.sh.injEq, Sl.own.injEq, o_nilT, o_consT, o_par, setD, unB, o_aug, o_augI, o_hN, o_hSub, o_hsNil, o_hsCons, o_hT, o_asgH, o_wrPop, o_dic, o_asT, v_asT_z, v_asT_t, v_asT_i, v_asT_l, o_methR, o_opR, o_ni, v_lenl, v_ord, List.length_map, c10, decide_false]
        exact next _ ⟨_, _, m, rfl, nd, hm⟩
      · have nd2 : (m ++ [z]).Nodup := List.nodup_append.mpr ⟨nd, by simp, fun a ha b hb e => by
          rw [List.mem_singleton] at hb; subst hb; subst e; exact c ha⟩
        have hm2 : ∀ y ∈ m ++ [z], y ∈ l := fun y hy => by
          rcases List.mem_append.mp hy with hy | hy
          · exact hm y hy
          · rw [List.mem_singleton.mp hy]; exact hz
        have few2 := hl.few _ nd2 hm2
        rw [List.length_append] at few2
        simp only [List.length_cons, List.length_nil] at few2
        have hz : m.length < sizeLine := Nat.lt_of_le_of_lt few (by decide)
        have c10 : ¬ (10 : Int) < ((m.length + 1 : Nat) : Int) := by omega
        try simp only [c, decide_false, o_slot_sh, o_slot_own, o_var, o_c, o_op, o_un, o_nil, o_cons, o_consB, o_star, o_items_l, o_items_t, o_tup, o_lst, o_call, o_if, o_blOf, o_andV, o_orV, o_notV, o_test, o_and, o_or, o_not, o_truth, o_yes, o_chain, o_own, o_pos, o_kw, o_asObj, o_meth, o_cm, o_prop, o_sl, o_nth, o_make, o_tagO_t, o_tagO_f, o_slice, o_no, o_so, o_intOf, o_isi, o_fmt, o_js_nil, o_js_cons, o_m1, o_call1, o_next, o_seq, o_break, o_cont, o_ret, o_retN, o_drop, o_ifS, o_set, o_asg, o_put_p, o_put_f, o_put_b, o_leak_p, o_leak_f, o_leak_b, o_for, o_loop_nil, o_gN, o_gT, o_gL, o_gsNil, o_gsCons, o_any, o_enum, o_range1, o_range2, o_lc, o_lcL_nil, o_rev, o_turn, o_ownIn, o_sWr, o_sPut, o_sNever, o_kd_nx, o_kd_rt, o_kd_ex, o_frOf_p, o_frOf_f, o_frOf_b, List.getElem?_cons_zero, List.getElem?_cons_succ, List.map_cons, List.map_nil, List.cons_append, List.nil_append, List.append_nil, List.length_cons, List.length_nil, List.set_cons_zero, List.set_cons_succ, List.replicate, Nat.sub_self, Nat.zero_add, Nat.reduceAdd, Nat.reduceSub, if_true, if_false, Bool.false_eq_true, Bool.not_true, Bool.not_false, true_and, and_true, reduceIte, startE, frz, frz1, wipeE, Option.some.injEq, Sl.sh.injEq, Sl.own.injEq, o_nilT, o_consT, o_par, setD, unB, o_aug, o_augI, o_hN, o_hSub, o_hsNil, o_hsCons, o_hT, o_asgH, o_wrPop, o_dic, o_asT, v_asT_z, v_asT_t, v_asT_i, v_asT_l, o_methR, o_opR, o_ni, ownIn, isLst, wApp, hz, v_lenl, v_ord, List.length_append, List.length_map, c10]
        exact next _ ⟨_, _, m ++ [z], by rw [List.map_append]; rfl, nd2, hm2⟩
    · obtain ⟨s1, s2, m, rfl, _⟩ := h
      try simp only [o_slot_sh, o_slot_own, o_var, o_c, o_op, o_un, o_nil, o_cons, o_consB, o_star, o_items_l, o_items_t, o_tup, o_lst, o_call, o_if, o_blOf, o_andV, o_orV, o_notV, o_test, o_and, o_or, o_not, o_truth, o_yes, o_chain, o_own, o_pos, o_kw, o_asObj, o_meth, o_cm, o_prop, o_sl, o_nth, o_make, o_tagO_t, o_tagO_f, o_slice, o_no, o_so, o_intOf, o_isi, o_fmt, o_js_nil, o_js_cons, o_m1, o_call1, o_next, o_seq, o_break, o_cont, o_ret, o_retN, o_drop, o_ifS, o_set, o_asg, o_put_p, o_put_f, o_put_b, o_leak_p, o_leak_f, o_leak_b, o_for, o_loop_nil, o_gN, o_gT, o_gL, o_gsNil, o_gsCons, o_any, o_enum, o_range1, o_range2, o_lc, o_lcL_nil, o_rev, o_turn, o_ownIn, o_sWr, o_sPut, o_sNever, o_kd_nx, o_kd_rt, o_kd_ex, o_frOf_p, o_frOf_f, o_frOf_b, List.getElem?_cons_zero, List.getElem?_cons_succ, List.map_cons, List.map_nil, List.cons_append, List.nil_append, List.append_nil, List.length_cons, List.length_nil, List.set_cons_zero, List.set_cons_succ, List.replicate, Nat.sub_self, Nat.zero_add, Nat.reduceAdd, Nat.reduceSub, if_true, if_false, Bool.false_eq_true, Bool.not_true, Bool.not_false, true_and, and_true, reduceIte, startE, frz, frz1, wipeE, Option.some.injEq, Sl.sh.injEq, Sl.own.injEq, o_nilT, o_consT, o_par, setD, unB, o_aug, o_augI, o_hN, o_hSub, o_hsNil, o_hsCons, o_hT, o_asgH, o_wrPop, o_dic, o_asT, v_asT_z, v_asT_t, v_asT_i, v_asT_l, o_methR, o_opR, o_ni]
      exact q

def sp_gathered : Sps := fun ds Qd _ => ∃ ps : List (Int × Int), ds = [.lst (ps.map pD)] ∧ ps.length ≤ 1000000 ∧ Qd (.lst ((tidyL ps).map pD)) true
def r_gathered (T : Tx) : RS :=
  (sSeq (sSet 1 (fun _ ρ Q => Q (.dic []) .f ρ)) (sSeq (sFor (iAny (dVar 0)) (gT 2 (gsCons (gN 2) (gsCons (gN 3) gsNil))) (sSeq (sPut 1 (dOp fAdd (dGet2 (dVar 1) (dVar 2) (dC (.int 0))) (dVar 3)) (dVar 2)) sNext)) (sSeq (sRet (dLc (iAny (dCall fSortedR (dConsB (dVar 1) dNil))) [1] [2] (gN 2) (dTest (dOp fGt (dOp fIxA (dVar 1) (dVar 2)) (dC (.int 0)))) (dTup (dCons (dVar 2) (dCons (dOp fIxA (dVar 1) (dVar 2)) dNil))))) sNext)))
theorem pure_gathered (T : Tx) : ∀ ds Qd xd, ds.length = 1 → sp_gathered ds Qd xd → r_gathered T (kdOf Qd xd) (startE (["kinds", "table", "degree", "count"] : List Str) ds) := by
  rintro _ Qd xd _ ⟨ps, rfl, hn, q⟩
  have go : ∀ (d0 : D) (suf : List (Int × Int)) (t : List (Int × Int)) (s1 s2 : Sl) (K : Env → Prop), NO s1 → NO s2 → (t.map (·.1)).Nodup → t.length + suf.length ≤ 1000000 → (∀ s1 s2, NO s1 → NO s2 → K [.sh d0, .own (.dic (dicT (suf.foldl addT t))), s1, s2]) →
      dLoop (gT 2 (gsCons (gN 2) (gsCons (gN 3) gsNil))) (sSeq (sPut 1 (dOp fAdd (dGet2 (dVar 1) (dVar 2) (dC (.int 0))) (dVar 3)) (dVar 2)) sNext) { nx := K, rt := fun d g _ => Qd d (frOf g), ex := fun e _ => xd e } (suf.map pD) [.sh d0, .own (.dic (dicT t)), s1, s2] := by
    intro d0 suf
    induction suf with
    | nil => exact fun t s1 s2 K n1 n2 _ _ h => h s1 s2 n1 n2
    | cons p suf ih =>
      intro t s1 s2 K _ _ hnd hlen h
      have hz : (dicT t).length < sizeLine := Nat.lt_of_le_of_lt (by rw [dicT, List.length_map]; simp only [List.length_cons] at hlen; omega : (dicT t).length ≤ 1000000) (by decide)
      have next := ih (addT t p) (.sh (.int p.1)) (.sh (.int p.2)) K .sh .sh (addT_nodup hnd p) (by have := addT_len t p; simp only [List.length_cons] at hlen; omega) h
      simp only [List.map_cons, dLoop, pD, o_slot_sh, o_slot_own, o_var, o_c, o_op, o_un, o_nil, o_cons, o_consB, o_star, o_items_l, o_items_t, o_tup, o_lst, o_call, o_if, o_blOf, o_andV, o_orV, o_notV, o_test, o_and, o_or, o_not, o_truth, o_yes, o_chain, o_own, o_pos, o_kw, o_asObj, o_meth, o_cm, o_prop, o_sl, o_nth, o_make, o_tagO_t, o_tagO_f, o_slice, o_no, o_so, o_intOf, o_isi, o_fmt, o_js_nil, o_js_cons, o_m1, o_call1, o_next, o_seq, o_break, o_cont, o_ret, o_retN, o_drop, o_ifS, o_set, o_asg, o_put_p, o_put_f, o_put_b, o_leak_p, o_leak_f, o_leak_b, o_for, o_loop_nil, o_gN, o_gT, o_gL, o_gsNil, o_gsCons, o_any, o_enum, o_range1, o_range2, o_lc, o_lcL_nil, o_rev, o_turn, o_ownIn, o_sWr, o_sPut, o_sNever, o_kd_nx, o_kd_rt, o_kd_ex, o_frOf_p, o_frOf_f, o_frOf_b, List.getElem?_cons_zero, List.getElem?_cons_succ, List.map_cons, List.map_nil, List.cons_append, List.nil_append, List.append_nil, List.length_cons, List.length_nil, List.set_cons_zero, List.set_cons_succ, List.replicate, Nat.sub_self, Nat.zero_add, Nat.reduceAdd, Nat.reduceSub, if_true, if_false, Bool.false_eq_true, Bool.not_true, Bool.not_false, true_and, and_true, reduceIte, startE, frz, frz1, wipeE, Option.some.injEq, Sl.sh.injEq, Sl.own.injEq, o_nilT, o_consT, o_par, setD, unB, o_aug, o_augI, o_hN, o_hSub, o_hsNil, o_hsCons, o_hT, o_asgH, o_wrPop, o_dic, o_asT, v_asT_z, v_asT_t, v_asT_i, v_asT_l, o_methR, o_opR, o_ni, Nat.reduceLT, Nat.lt_add_one, dGet2, toKey, leak]
      refine ⟨_, rfl, ?_⟩
      rw [valD_T]
      have pt := putT hnd p
      cases e : lookT t p.1 with
      | none =>
        rw [e] at pt
        simp only [Option.map_none, o_slot_sh, o_slot_own, o_var, o_c, o_op, o_un, o_nil, o_cons, o_consB, o_star, o_items_l, o_items_t, o_tup, o_lst, o_call, o_if, o_blOf, o_andV, o_orV, o_notV, o_test, o_and, o_or, o_not, o_truth, o_yes, o_chain, o_own, o_pos, o_kw, o_asObj, o_meth, o_cm, o_prop, o_sl, o_nth, o_make, o_tagO_t, o_tagO_f, o_slice, o_no, o_so, o_intOf, o_isi, o_fmt, o_js_nil, o_js_cons, o_m1, o_call1, o_next, o_seq, o_break, o_cont, o_ret, o_retN, o_drop, o_ifS, o_set, o_asg, o_put_p, o_put_f, o_put_b, o_leak_p, o_leak_f, o_leak_b, o_for, o_loop_nil, o_gN, o_gT, o_gL, o_gsNil, o_gsCons, o_any, o_enum, o_range1, o_range2, o_lc, o_lcL_nil, o_rev, o_turn, o_ownIn, o_sWr, o_sPut, o_sNever, o_kd_nx, o_kd_rt, o_kd_ex, o_frOf_p, o_frOf_f, o_frOf_b, List.getElem?_cons_zero, List.getElem?_cons_succ, List.map_cons, List.map_nil, List.cons_append, List.nil_append, List.append_nil, List.length_cons, List.length_nil, List.set_cons_zero, List.set_cons_succ, List.replicate, Nat.sub_self, Nat.zero_add, Nat.reduceAdd, Nat.reduceSub, if_true, if_false, Bool.false_eq_true, Bool.not_true, Bool.not_false, true_and, and_true, reduceIte, startE, frz, frz1, wipeE, Option.some.injEq, Sl.sh.injEq, Sl.own.injEq, o_nilT, o_consT, o_par, setD, unB, o_aug, o_augI, o_hN, o_hSub, o_hsNil, o_hsCons, o_hT, o_asgH, o_wrPop, o_dic, o_asT, v_asT_z, v_asT_t, v_asT_i, v_asT_l, o_methR, o_opR, o_ni, v_addi, ownIn, putAt, toKey]
        refine ⟨_, rfl, hz, ?_⟩
        rw [show (0 : Int) + p.2 = (none : Option Int).getD 0 + p.2 from rfl, pt]
        exact next
      | some c =>
        rw [e] at pt
        simp only [Option.map_some, o_slot_sh, o_slot_own, o_var, o_c, o_op, o_un, o_nil, o_cons, o_consB, o_star, o_items_l, o_items_t, o_tup, o_lst, o_call, o_if, o_blOf, o_andV, o_orV, o_notV, o_test, o_and, o_or, o_not, o_truth, o_yes, o_chain, o_own, o_pos, o_kw, o_asObj, o_meth, o_cm, o_prop, o_sl, o_nth, o_make, o_tagO_t, o_tagO_f, o_slice, o_no, o_so, o_intOf, o_isi, o_fmt, o_js_nil, o_js_cons, o_m1, o_call1, o_next, o_seq, o_break, o_cont, o_ret, o_retN, o_drop, o_ifS, o_set, o_asg, o_put_p, o_put_f, o_put_b, o_leak_p, o_leak_f, o_leak_b, o_for, o_loop_nil, o_gN, o_gT, o_gL, o_gsNil, o_gsCons, o_any, o_enum, o_range1, o_range2, o_lc, o_lcL_nil, o_rev, o_turn, o_ownIn, o_sWr, o_sPut, o_sNever, o_kd_nx, o_kd_rt, o_kd_ex, o_frOf_p, o_frOf_f, o_frOf_b, List.getElem?_cons_zero, List.getElem?_cons_succ, List.map_cons, List.map_nil, List.cons_append, List.nil_append, List.append_nil, List.length_cons, List.length_nil, List.set_cons_zero, List.set_cons_succ, List.replicate, Nat.sub_self, Nat.zero_add, Nat.reduceAdd, Nat.reduceSub, if_true, if_false, Bool.false_eq_true, Bool.not_true, Bool.not_false, true_and, and_true, reduceIte, startE, frz, frz1, wipeE, Option.some.injEq, Sl.sh.injEq, Sl.own.injEq, o_nilT, o_consT, o_par, setD, unB, o_aug, o_augI, o_hN, o_hSub, o_hsNil, o_hsCons, o_hT, o_asgH, o_wrPop, o_dic, o_asT, v_asT_z, v_asT_t, v_asT_i, v_asT_l, o_methR, o_opR, o_ni, v_addi, ownIn, putAt, toKey]
        refine ⟨_, rfl, hz, ?_⟩
        rw [show c + p.2 = (some c).getD 0 + p.2 from rfl, pt]
        exact next
  have ek : (dicT (tabL ps)).map (·.1) = ((tabL ps).map (·.1)).map Sum.inl := by
    unfold dicT
    rw [List.map_map, List.map_map]; rfl
  have hz : ((sortI ((tabL ps).map (·.1))).reverse.map D.int).length ≤ sizeLine := by
    rw [List.length_map, List.length_reverse, (sortI_perm _).length_eq, List.length_map]
    have len : ∀ (qs t : List (Int × Int)), (qs.foldl addT t).length ≤ t.length + qs.length := by
      intro qs
      induction qs with
      | nil => exact fun t => Nat.le_refl _
      | cons p qs ih =>
        intro t
        have := ih (addT t p)
        have := addT_len t p
        simp only [List.foldl_cons, List.length_cons]
        omega
    have := len ps []
    exact small_line (by unfold tabL; simp only [List.length_nil] at this; omega)
  have h2 : (2 : Nat) ≤ sizeLine := by decide
  simp only [r_gathered, o_slot_sh, o_slot_own, o_var, o_c, o_op, o_un, o_nil, o_cons, o_consB, o_star, o_items_l, o_items_t, o_tup, o_lst, o_call, o_if, o_blOf, o_andV, o_orV, o_notV, o_test, o_and, o_or, o_not, o_truth, o_yes, o_chain, o_own, o_pos, o_kw, o_asObj, o_meth, o_cm, o_prop, o_sl, o_nth, o_make, o_tagO_t, o_tagO_f, o_slice, o_no, o_so, o_intOf, o_isi, o_fmt, o_js_nil, o_js_cons, o_m1, o_call1, o_next, o_seq, o_break, o_cont, o_ret, o_retN, o_drop, o_ifS, o_set, o_asg, o_put_p, o_put_f, o_put_b, o_leak_p, o_leak_f, o_leak_b, o_for, o_loop_nil, o_gN, o_gT, o_gL, o_gsNil, o_gsCons, o_any, o_enum, o_range1, o_range2, o_lc, o_lcL_nil, o_rev, o_turn, o_ownIn, o_sWr, o_sPut, o_sNever, o_kd_nx, o_kd_rt, o_kd_ex, o_frOf_p, o_frOf_f, o_frOf_b, List.getElem?_cons_zero, List.getElem?_cons_succ, List.map_cons, List.map_nil, List.cons_append, List.nil_append, List.append_nil, List.length_cons, List.length_nil, List.set_cons_zero, List.set_cons_succ, List.replicate, Nat.sub_self, Nat.zero_add, Nat.reduceAdd, Nat.reduceSub, if_true, if_false, Bool.false_eq_true, Bool.not_true, Bool.not_false, true_and, and_true, reduceIte, startE, frz, frz1, wipeE, Option.some.injEq, Sl.sh.injEq, Sl.own.injEq, o_nilT, o_consT, o_par, setD, unB, o_aug, o_augI, o_hN, o_hSub, o_hsNil, o_hsCons, o_hT, o_asgH, o_wrPop, o_dic, o_asT, v_asT_z, v_asT_t, v_asT_i, v_asT_l, o_methR, o_opR, o_ni]
  refine go _ ps [] .no .no _ .no .no List.nodup_nil (by simpa using hn) fun s1 s2 n1 n2 => ?_
  have fz : ∀ d0 : D, frz [2, 1] [.sh d0, .own (.dic (dicT (tabL ps))), s1, s2] = [.sh d0, .sh (.dic (dicT (tabL ps))), s1, s2] := fun d0 => by
    rcases n1 with rfl | ⟨_, rfl⟩ <;> rfl
  rw [show ps.foldl addT [] = tabL ps from rfl]
  simp only [o_slot_sh, o_slot_own, o_var, o_c, o_op, o_un, o_nil, o_cons, o_consB, o_star, o_items_l, o_items_t, o_tup, o_lst, o_call, o_if, o_blOf, o_andV, o_orV, o_notV, o_test, o_and, o_or, o_not, o_truth, o_yes, o_chain, o_own, o_pos, o_kw, o_asObj, o_meth, o_cm, o_prop, o_sl, o_nth, o_make, o_tagO_t, o_tagO_f, o_slice, o_no, o_so, o_intOf, o_isi, o_fmt, o_js_nil, o_js_cons, o_m1, o_call1, o_next, o_seq, o_break, o_cont, o_ret, o_retN, o_drop, o_ifS, o_set, o_asg, o_put_p, o_put_f, o_put_b, o_leak_p, o_leak_f, o_leak_b, o_for, o_loop_nil, o_gN, o_gT, o_gL, o_gsNil, o_gsCons, o_any, o_enum, o_range1, o_range2, o_lc, o_lcL_nil, o_rev, o_turn, o_ownIn, o_sWr, o_sPut, o_sNever, o_kd_nx, o_kd_rt, o_kd_ex, o_frOf_p, o_frOf_f, o_frOf_b, List.getElem?_cons_zero, List.getElem?_cons_succ, List.map_cons, List.map_nil, List.cons_append, List.nil_append, List.append_nil, List.length_cons, List.length_nil, List.set_cons_zero, List.set_cons_succ, List.replicate, Nat.sub_self, Nat.zero_add, Nat.reduceAdd, Nat.reduceSub, if_true, if_false, Bool.false_eq_true, Bool.not_true, Bool.not_false, true_and, and_true, reduceIte, startE, Option.some.injEq, Sl.sh.injEq, Sl.own.injEq, o_nilT, o_consT, o_par, setD, unB, o_aug, o_augI, o_hN, o_hSub, o_hsNil, o_hsCons, o_hT, o_asgH, o_wrPop, o_dic, o_asT, v_asT_z, v_asT_t, v_asT_i, v_asT_l, o_methR, o_opR, o_ni, fSortedR]
  refine ⟨_, ek, ?_⟩
  simp only [o_slot_sh, o_slot_own, o_var, o_c, o_op, o_un, o_nil, o_cons, o_consB, o_star, o_items_l, o_items_t, o_tup, o_lst, o_call, o_if, o_blOf, o_andV, o_orV, o_notV, o_test, o_and, o_or, o_not, o_truth, o_yes, o_chain, o_own, o_pos, o_kw, o_asObj, o_meth, o_cm, o_prop, o_sl, o_nth, o_make, o_tagO_t, o_tagO_f, o_slice, o_no, o_so, o_intOf, o_isi, o_fmt, o_js_nil, o_js_cons, o_m1, o_call1, o_next, o_seq, o_break, o_cont, o_ret, o_retN, o_drop, o_ifS, o_set, o_asg, o_put_p, o_put_f, o_put_b, o_leak_p, o_leak_f, o_leak_b, o_for, o_loop_nil, o_gN, o_gT, o_gL, o_gsNil, o_gsCons, o_any, o_enum, o_range1, o_range2, o_lc, o_lcL_nil, o_rev, o_turn, o_ownIn, o_sWr, o_sPut, o_sNever, o_kd_nx, o_kd_rt, o_kd_ex, o_frOf_p, o_frOf_f, o_frOf_b, List.getElem?_cons_zero, List.getElem?_cons_succ, List.map_cons, List.map_nil, List.cons_append, List.nil_append, List.append_nil, List.length_cons, List.length_nil, List.set_cons_zero, List.set_cons_succ, List.replicate, Nat.sub_self, Nat.zero_add, Nat.reduceAdd, Nat.reduceSub, if_true, if_false, Bool.false_eq_true, Bool.not_true, Bool.not_false, true_and, and_true, reduceIte, startE, Option.some.injEq, Sl.sh.injEq, Sl.own.injEq, o_nilT, o_consT, o_par, setD, unB, o_aug, o_augI, o_hN, o_hSub, o_hsNil, o_hsCons, o_hT, o_asgH, o_wrPop, o_dic, o_asT, v_asT_z, v_asT_t, v_asT_i, v_asT_l, o_methR, o_opR, o_ni, fz, hz]
  simp only [wipeE, o_slot_sh, o_slot_own, o_var, o_c, o_op, o_un, o_nil, o_cons, o_consB, o_star, o_items_l, o_items_t, o_tup, o_lst, o_call, o_if, o_blOf, o_andV, o_orV, o_notV, o_test, o_and, o_or, o_not, o_truth, o_yes, o_chain, o_own, o_pos, o_kw, o_asObj, o_meth, o_cm, o_prop, o_sl, o_nth, o_make, o_tagO_t, o_tagO_f, o_slice, o_no, o_so, o_intOf, o_isi, o_fmt, o_js_nil, o_js_cons, o_m1, o_call1, o_next, o_seq, o_break, o_cont, o_ret, o_retN, o_drop, o_ifS, o_set, o_asg, o_put_p, o_put_f, o_put_b, o_leak_p, o_leak_f, o_leak_b, o_for, o_loop_nil, o_gN, o_gT, o_gL, o_gsNil, o_gsCons, o_any, o_enum, o_range1, o_range2, o_lc, o_lcL_nil, o_rev, o_turn, o_ownIn, o_sWr, o_sPut, o_sNever, o_kd_nx, o_kd_rt, o_kd_ex, o_frOf_p, o_frOf_f, o_frOf_b, List.getElem?_cons_zero, List.getElem?_cons_succ, List.map_cons, List.map_nil, List.cons_append, List.nil_append, List.append_nil, List.length_cons, List.length_nil, List.set_cons_zero, List.set_cons_succ, List.replicate, Nat.sub_self, Nat.zero_add, Nat.reduceAdd, Nat.reduceSub, if_true, if_false, Bool.false_eq_true, Bool.not_true, Bool.not_false, true_and, and_true, reduceIte, startE, Option.some.injEq, Sl.sh.injEq, Sl.own.injEq, o_nilT, o_consT, o_par, setD, unB, o_aug, o_augI, o_hN, o_hSub, o_hsNil, o_hsCons, o_hT, o_asgH, o_wrPop, o_dic, o_asT, v_asT_z, v_asT_t, v_asT_i, v_asT_l, o_methR, o_opR, o_ni]
  refine lcL_filter D.int (fun d => pD (d, (lookT (tabL ps) d).getD 0)) (fun d => decide (0 < (lookT (tabL ps) d).getD 0)) (fun d hd R N hR hN => ?_) ?_
  · have hm : d ∈ (tabL ps).map (·.1) := (sortI_perm _).mem_iff.mp (List.mem_reverse.mp hd)
    obtain ⟨c, hc⟩ : ∃ c, lookT (tabL ps) d = some c := by
      cases e : lookT (tabL ps) d with
      | none => exact (lookT_none.mp e hm).elim
      | some c => exact ⟨c, rfl⟩
    have hv : valD (dicT (tabL ps)) (.inl d) = some (.int c) := by rw [valD_T, hc]; rfl
    have hx : ∀ k : D → Tag → Prop, fIxA (.dic (dicT (tabL ps))) (.int d) k = k (.int c) .p := fun k => propext ⟨fun ⟨key, z, e1, e2, q⟩ => by cases e1; rw [hv] at e2; cases e2; exact q, fun q => ⟨_, _, rfl, hv, q⟩⟩
    rw [hc] at hR hN
    simp only [o_slot_sh, o_slot_own, o_var, o_c, o_op, o_un, o_nil, o_cons, o_consB, o_star, o_items_l, o_items_t, o_tup, o_lst, o_call, o_if, o_blOf, o_andV, o_orV, o_notV, o_test, o_and, o_or, o_not, o_truth, o_yes, o_chain, o_own, o_pos, o_kw, o_asObj, o_meth, o_cm, o_prop, o_sl, o_nth, o_make, o_tagO_t, o_tagO_f, o_slice, o_no, o_so, o_intOf, o_isi, o_fmt, o_js_nil, o_js_cons, o_m1, o_call1, o_next, o_seq, o_break, o_cont, o_ret, o_retN, o_drop, o_ifS, o_set, o_asg, o_put_p, o_put_f, o_put_b, o_leak_p, o_leak_f, o_leak_b, o_for, o_loop_nil, o_gN, o_gT, o_gL, o_gsNil, o_gsCons, o_any, o_enum, o_range1, o_range2, o_lc, o_lcL_nil, o_rev, o_turn, o_ownIn, o_sWr, o_sPut, o_sNever, o_kd_nx, o_kd_rt, o_kd_ex, o_frOf_p, o_frOf_f, o_frOf_b, List.getElem?_cons_zero, List.getElem?_cons_succ, List.map_cons, List.map_nil, List.cons_append, List.nil_append, List.append_nil, List.length_cons, List.length_nil, List.set_cons_zero, List.set_cons_succ, List.replicate, Nat.sub_self, Nat.zero_add, Nat.reduceAdd, Nat.reduceSub, if_true, if_false, Bool.false_eq_true, Bool.not_true, Bool.not_false, true_and, and_true, reduceIte, startE, frz, frz1, wipeE, Option.some.injEq, Sl.sh.injEq, Sl.own.injEq, o_nilT, o_consT, o_par, setD, unB, o_aug, o_augI, o_hN, o_hSub, o_hsNil, o_hsCons, o_hT, o_asgH, o_wrPop, o_dic, o_asT, v_asT_z, v_asT_t, v_asT_i, v_asT_l, o_methR, o_opR, o_ni, hx, v_ord, h2, Nat.reduceLT, Nat.lt_add_one]
    by_cases h0 : 0 < c
    · have := hR (decide_eq_true h0)
      simp only [h0, decide_true, o_slot_sh, o_slot_own, o_var, o_c, o_op, o_un, o_nil, o_cons, o_consB, o_star, o_items_l, o_items_t, o_tup, o_lst, o_call, o_if, o_blOf, o_andV, o_orV, o_notV, o_test, o_and, o_or, o_not, o_truth, o_yes, o_chain, o_own, o_pos, o_kw, o_asObj, o_meth, o_cm, o_prop, o_sl, o_nth, o_make, o_tagO_t, o_tagO_f, o_slice, o_no, o_so, o_intOf, o_isi, o_fmt, o_js_nil, o_js_cons, o_m1, o_call1, o_next, o_seq, o_break, o_cont, o_ret, o_retN, o_drop, o_ifS, o_set, o_asg, o_put_p, o_put_f, o_put_b, o_leak_p, o_leak_f, o_leak_b, o_for, o_loop_nil, o_gN, o_gT, o_gL, o_gsNil, o_gsCons, o_any, o_enum, o_range1, o_range2, o_lc, o_lcL_nil, o_rev, o_turn, o_ownIn, o_sWr, o_sPut, o_sNever, o_kd_nx, o_kd_rt, o_kd_ex, o_frOf_p, o_frOf_f, o_frOf_b, List.getElem?_cons_zero, List.getElem?_cons_succ, List.map_cons, List.map_nil, List.cons_append, List.nil_append, List.append_nil, List.length_cons, List.length_nil, List.set_cons_zero, List.set_cons_succ, List.replicate, Nat.sub_self, Nat.zero_add, Nat.reduceAdd, Nat.reduceSub, if_true, if_false, Bool.false_eq_true, Bool.not_true, Bool.not_false, true_and, and_true, reduceIte, startE, frz, frz1, wipeE, Option.some.injEq, Sl.sh.injEq, Sl.own.injEq, o_nilT, o_consT, o_par, setD, unB, o_aug, o_augI, o_hN, o_hSub, o_hsNil, o_hsCons, o_hT, o_asgH, o_wrPop, o_dic, o_asT, v_asT_z, v_asT_t, v_asT_i, v_asT_l, o_methR, o_opR, o_ni]
      exact this
    · have := hN (decide_eq_false h0)
      simp only [h0, decide_false, o_slot_sh, o_slot_own, o_var, o_c, o_op, o_un, o_nil, o_cons, o_consB, o_star, o_items_l, o_items_t, o_tup, o_lst, o_call, o_if, o_blOf, o_andV, o_orV, o_notV, o_test, o_and, o_or, o_not, o_truth, o_yes, o_chain, o_own, o_pos, o_kw, o_asObj, o_meth, o_cm, o_prop, o_sl, o_nth, o_make, o_tagO_t, o_tagO_f, o_slice, o_no, o_so, o_intOf, o_isi, o_fmt, o_js_nil, o_js_cons, o_m1, o_call1, o_next, o_seq, o_break, o_cont, o_ret, o_retN, o_drop, o_ifS, o_set, o_asg, o_put_p, o_put_f, o_put_b, o_leak_p, o_leak_f, o_leak_b, o_for, o_loop_nil, o_gN, o_gT, o_gL, o_gsNil, o_gsCons, o_any, o_enum, o_range1, o_range2, o_lc, o_lcL_nil, o_rev, o_turn, o_ownIn, o_sWr, o_sPut, o_sNever, o_kd_nx, o_kd_rt, o_kd_ex, o_frOf_p, o_frOf_f, o_frOf_b, List.getElem?_cons_zero, List.getElem?_cons_succ, List.map_cons, List.map_nil, List.cons_append, List.nil_append, List.append_nil, List.length_cons, List.length_nil, List.set_cons_zero, List.set_cons_succ, List.replicate, Nat.sub_self, Nat.zero_add, Nat.reduceAdd, Nat.reduceSub, if_true, if_false, Bool.false_eq_true, Bool.not_true, Bool.not_false, true_and, and_true, reduceIte, startE, frz, frz1, wipeE, Option.some.injEq, Sl.sh.injEq, Sl.own.injEq, o_nilT, o_consT, o_par, setD, unB, o_aug, o_augI, o_hN, o_hSub, o_hsNil, o_hsCons, o_hT, o_asgH, o_wrPop, o_dic, o_asT, v_asT_z, v_asT_t, v_asT_i, v_asT_l, o_methR, o_opR, o_ni]
      exact this
  · simp only [o_slot_sh, o_slot_own, o_var, o_c, o_op, o_un, o_nil, o_cons, o_consB, o_star, o_items_l, o_items_t, o_tup, o_lst, o_call, o_if, o_blOf, o_andV, o_orV, o_notV, o_test, o_and, o_or, o_not, o_truth, o_yes, o_chain, o_own, o_pos, o_kw, o_asObj, o_meth, o_cm, o_prop, o_sl, o_nth, o_make, o_tagO_t, o_tagO_f, o_slice, o_no, o_so, o_intOf, o_isi, o_fmt, o_js_nil, o_js_cons, o_m1, o_call1, o_next, o_seq, o_break, o_cont, o_ret, o_retN, o_drop, o_ifS, o_set, o_asg, o_put_p, o_put_f, o_put_b, o_leak_p, o_leak_f, o_leak_b, o_for, o_loop_nil, o_gN, o_gT, o_gL, o_gsNil, o_gsCons, o_any, o_enum, o_range1, o_range2, o_lc, o_lcL_nil, o_rev, o_turn, o_ownIn, o_sWr, o_sPut, o_sNever, o_kd_nx, o_kd_rt, o_kd_ex, o_frOf_p, o_frOf_f, o_frOf_b, List.getElem?_cons_zero, List.getElem?_cons_succ, List.map_cons, List.map_nil, List.cons_append, List.nil_append, List.append_nil, List.length_cons, List.length_nil, List.set_cons_zero, List.set_cons_succ, List.replicate, Nat.sub_self, Nat.zero_add, Nat.reduceAdd, Nat.reduceSub, if_true, if_false, Bool.false_eq_true, Bool.not_true, Bool.not_false, true_and, and_true, reduceIte, startE, frz, frz1, wipeE, Option.some.injEq, Sl.sh.injEq, Sl.own.injEq, o_nilT, o_consT, o_par, setD, unB, o_aug, o_augI, o_hN, o_hSub, o_hsNil, o_hsCons, o_hT, o_asgH, o_wrPop, o_dic, o_asT, v_asT_z, v_asT_t, v_asT_i, v_asT_l, o_methR, o_opR, o_ni]
    rw [tidyL, List.map_map] at q
    exact q

def sp_Row_listed : Sps := fun ds Qd _ => ∃ (a : D) (l : List Int), ds = [a, .tup (l.map D.int)] ∧ GoodLot l ∧ Qd (.obj 0 [kD (tidyL (onesP l))]) false
def r_Row_listed (T : Tx) : RS :=
  (sSeq (sDrop (dOwn 1 sp_check_listed (dPos 1 (dCons (dVar 1) dNil)))) (sSeq (sRet (dMake 0 2 sp_Row___init__ (dPos 1 (dCons (dCall fTuple (dConsB (dOwn 1 sp_gathered (dPos 1 (dCons (dLc (iAny (dVar 1)) [] [2] (gN 2) dYes (dTup (dCons (dVar 2) (dCons (dC (.int 1)) dNil)))) dNil))) dNil)) dNil)))) sNext))
theorem pure_Row_listed (T : Tx) : ∀ ds Qd xd, ds.length = 2 → sp_Row_listed ds Qd xd → r_Row_listed T (kdOf Qd xd) (startE (["cls", "degrees", "degree"] : List Str) ds) := by
  rintro _ Qd xd _ ⟨a, l, rfl, hl, q⟩
  have hz : (l.map D.int).length ≤ sizeLine := small_line (by rw [List.length_map]; have := hl.len; omega)
  have z2 : (2 : Nat) ≤ sizeLine := by decide
  simp only [r_Row_listed, o_slot_sh, o_slot_own, o_var, o_c, o_op, o_un, o_nil, o_cons, o_consB, o_star, o_items_l, o_items_t, o_tup, o_lst, o_call, o_if, o_blOf, o_andV, o_orV, o_notV, o_test, o_and, o_or, o_not, o_truth, o_yes, o_chain, o_own, o_pos, o_kw, o_asObj, o_meth, o_cm, o_prop, o_sl, o_nth, o_make, o_tagO_t, o_tagO_f, o_slice, o_no, o_so, o_intOf, o_isi, o_fmt, o_js_nil, o_js_cons, o_m1, o_call1, o_next, o_seq, o_break, o_cont, o_ret, o_retN, o_drop, o_ifS, o_set, o_asg, o_put_p, o_put_f, o_put_b, o_leak_p, o_leak_f, o_leak_b, o_for, o_loop_nil, o_gN, o_gT, o_gL, o_gsNil, o_gsCons, o_any, o_enum, o_range1, o_range2, o_lc, o_lcL_nil, o_rev, o_turn, o_ownIn, o_sWr, o_sPut, o_sNever, o_kd_nx, o_kd_rt, o_kd_ex, o_frOf_p, o_frOf_f, o_frOf_b, List.getElem?_cons_zero, List.getElem?_cons_succ, List.map_cons, List.map_nil, List.cons_append, List.nil_append, List.append_nil, List.length_cons, List.length_nil, List.set_cons_zero, List.set_cons_succ, List.replicate, Nat.sub_self, Nat.zero_add, Nat.reduceAdd, Nat.reduceSub, if_true, if_false, Bool.false_eq_true, Bool.not_true, Bool.not_false, true_and, and_true, reduceIte, startE, frz, frz1, wipeE, Option.some.injEq, Sl.sh.injEq, Sl.own.injEq, o_nilT, o_consT, o_par, setD, unB, o_aug, o_augI, o_hN, o_hSub, o_hsNil, o_hsCons, o_hT, o_asgH, o_wrPop, o_dic, o_asT, v_asT_z, v_asT_t, v_asT_i, v_asT_l, o_methR, o_opR, o_ni, sp_check_listed]
  refine ⟨l, rfl, hl, ?_⟩
  simp only [o_slot_sh, o_slot_own, o_var, o_c, o_op, o_un, o_nil, o_cons, o_consB, o_star, o_items_l, o_items_t, o_tup, o_lst, o_call, o_if, o_blOf, o_andV, o_orV, o_notV, o_test, o_and, o_or, o_not, o_truth, o_yes, o_chain, o_own, o_pos, o_kw, o_asObj, o_meth, o_cm, o_prop, o_sl, o_nth, o_make, o_tagO_t, o_tagO_f, o_slice, o_no, o_so, o_intOf, o_isi, o_fmt, o_js_nil, o_js_cons, o_m1, o_call1, o_next, o_seq, o_break, o_cont, o_ret, o_retN, o_drop, o_ifS, o_set, o_asg, o_put_p, o_put_f, o_put_b, o_leak_p, o_leak_f, o_leak_b, o_for, o_loop_nil, o_gN, o_gT, o_gL, o_gsNil, o_gsCons, o_any, o_enum, o_range1, o_range2, o_lc, o_lcL_nil, o_rev, o_turn, o_ownIn, o_sWr, o_sPut, o_sNever, o_kd_nx, o_kd_rt, o_kd_ex, o_frOf_p, o_frOf_f, o_frOf_b, List.getElem?_cons_zero, List.getElem?_cons_succ, List.map_cons, List.map_nil, List.cons_append, List.nil_append, List.append_nil, List.length_cons, List.length_nil, List.set_cons_zero, List.set_cons_succ, List.replicate, Nat.sub_self, Nat.zero_add, Nat.reduceAdd, Nat.reduceSub, if_true, if_false, Bool.false_eq_true, Bool.not_true, Bool.not_false, true_and, and_true, reduceIte, startE, frz, frz1, wipeE, Option.some.injEq, Sl.sh.injEq, Sl.own.injEq, o_nilT, o_consT, o_par, setD, unB, o_aug, o_augI, o_hN, o_hSub, o_hsNil, o_hsCons, o_hT, o_asgH, o_wrPop, o_dic, o_asT, v_asT_z, v_asT_t, v_asT_i, v_asT_l, o_methR, o_opR, o_ni, hz]
  refine lcL_map D.int (fun z => pD (z, 1)) (fun z hz R hR => ?_) ?_
  · simp only [o_slot_sh, o_slot_own, o_var, o_c, o_op, o_un, o_nil, o_cons, o_consB, o_star, o_items_l, o_items_t, o_tup, o_lst, o_call, o_if, o_blOf, o_andV, o_orV, o_notV, o_test, o_and, o_or, o_not, o_truth, o_yes, o_chain, o_own, o_pos, o_kw, o_asObj, o_meth, o_cm, o_prop, o_sl, o_nth, o_make, o_tagO_t, o_tagO_f, o_slice, o_no, o_so, o_intOf, o_isi, o_fmt, o_js_nil, o_js_cons, o_m1, o_call1, o_next, o_seq, o_break, o_cont, o_ret, o_retN, o_drop, o_ifS, o_set, o_asg, o_put_p, o_put_f, o_put_b, o_leak_p, o_leak_f, o_leak_b, o_for, o_loop_nil, o_gN, o_gT, o_gL, o_gsNil, o_gsCons, o_any, o_enum, o_range1, o_range2, o_lc, o_lcL_nil, o_rev, o_turn, o_ownIn, o_sWr, o_sPut, o_sNever, o_kd_nx, o_kd_rt, o_kd_ex, o_frOf_p, o_frOf_f, o_frOf_b, List.getElem?_cons_zero, List.getElem?_cons_succ, List.map_cons, List.map_nil, List.cons_append, List.nil_append, List.append_nil, List.length_cons, List.length_nil, List.set_cons_zero, List.set_cons_succ, List.replicate, Nat.sub_self, Nat.zero_add, Nat.reduceAdd, Nat.reduceSub, if_true, if_false, Bool.false_eq_true, Bool.not_true, Bool.not_false, true_and, and_true, reduceIte, startE, frz, frz1, wipeE, Option.some.injEq, Sl.sh.injEq, Sl.own.injEq, o_nilT, o_consT, o_par, setD, unB, o_aug, o_augI, o_hN, o_hSub, o_hsNil, o_hsCons, o_hT, o_asgH, o_wrPop, o_dic, o_asT, v_asT_z, v_asT_t, v_asT_i, v_asT_l, o_methR, o_opR, o_ni, Nat.reduceLT, Nat.lt_add_one, z2]
    exact hR
  · simp only [o_slot_sh, o_slot_own, o_var, o_c, o_op, o_un, o_nil, o_cons, o_consB, o_star, o_items_l, o_items_t, o_tup, o_lst, o_call, o_if, o_blOf, o_andV, o_orV, o_notV, o_test, o_and, o_or, o_not, o_truth, o_yes, o_chain, o_own, o_pos, o_kw, o_asObj, o_meth, o_cm, o_prop, o_sl, o_nth, o_make, o_tagO_t, o_tagO_f, o_slice, o_no, o_so, o_intOf, o_isi, o_fmt, o_js_nil, o_js_cons, o_m1, o_call1, o_next, o_seq, o_break, o_cont, o_ret, o_retN, o_drop, o_ifS, o_set, o_asg, o_put_p, o_put_f, o_put_b, o_leak_p, o_leak_f, o_leak_b, o_for, o_loop_nil, o_gN, o_gT, o_gL, o_gsNil, o_gsCons, o_any, o_enum, o_range1, o_range2, o_lc, o_lcL_nil, o_rev, o_turn, o_ownIn, o_sWr, o_sPut, o_sNever, o_kd_nx, o_kd_rt, o_kd_ex, o_frOf_p, o_frOf_f, o_frOf_b, List.getElem?_cons_zero, List.getElem?_cons_succ, List.map_cons, List.map_nil, List.cons_append, List.nil_append, List.append_nil, List.length_cons, List.length_nil, List.set_cons_zero, List.set_cons_succ, List.replicate, Nat.sub_self, Nat.zero_add, Nat.reduceAdd, Nat.reduceSub, if_true, if_false, Bool.false_eq_true, Bool.not_true, Bool.not_false, true_and, and_true, reduceIte, startE, frz, frz1, wipeE, Option.some.injEq, Sl.sh.injEq, Sl.own.injEq, o_nilT, o_consT, o_par, setD, unB, o_aug, o_augI, o_hN, o_hSub, o_hsNil, o_hsCons, o_hT, o_asgH, o_wrPop, o_dic, o_asT, v_asT_z, v_asT_t, v_asT_i, v_asT_l, o_methR, o_opR, o_ni, sp_gathered]
    refine ⟨onesP l, by unfold onesP; rw [List.map_map]; rfl, by unfold onesP; rw [List.length_map]; have := hl.len; omega, ?_⟩
    simp only [o_slot_sh, o_slot_own, o_var, o_c, o_op, o_un, o_nil, o_cons, o_consB, o_star, o_items_l, o_items_t, o_tup, o_lst, o_call, o_if, o_blOf, o_andV, o_orV, o_notV, o_test, o_and, o_or, o_not, o_truth, o_yes, o_chain, o_own, o_pos, o_kw, o_asObj, o_meth, o_cm, o_prop, o_sl, o_nth, o_make, o_tagO_t, o_tagO_f, o_slice, o_no, o_so, o_intOf, o_isi, o_fmt, o_js_nil, o_js_cons, o_m1, o_call1, o_next, o_seq, o_break, o_cont, o_ret, o_retN, o_drop, o_ifS, o_set, o_asg, o_put_p, o_put_f, o_put_b, o_leak_p, o_leak_f, o_leak_b, o_for, o_loop_nil, o_gN, o_gT, o_gL, o_gsNil, o_gsCons, o_any, o_enum, o_range1, o_range2, o_lc, o_lcL_nil, o_rev, o_turn, o_ownIn, o_sWr, o_sPut, o_sNever, o_kd_nx, o_kd_rt, o_kd_ex, o_frOf_p, o_frOf_f, o_frOf_b, List.getElem?_cons_zero, List.getElem?_cons_succ, List.map_cons, List.map_nil, List.cons_append, List.nil_append, List.append_nil, List.length_cons, List.length_nil, List.set_cons_zero, List.set_cons_succ, List.replicate, Nat.sub_self, Nat.zero_add, Nat.reduceAdd, Nat.reduceSub, if_true, if_false, Bool.false_eq_true, Bool.not_true, Bool.not_false, true_and, and_true, reduceIte, startE, frz, frz1, wipeE, Option.some.injEq, Sl.sh.injEq, Sl.own.injEq, o_nilT, o_consT, o_par, setD, unB, o_aug, o_augI, o_hN, o_hSub, o_hsNil, o_hsCons, o_hT, o_asgH, o_wrPop, o_dic, o_asT, v_asT_z, v_asT_t, v_asT_i, v_asT_l, o_methR, o_opR, o_ni, v_tupl, sp_Row___init__]
    exact ⟨_, rfl, tidy_ones hl, q⟩

def sp__law_of : Sps := fun ds Qd _ => ∃ l : List Int, (ds = [.lst (l.map D.int)] ∨ ds = [.tup (l.map D.int)]) ∧ l.length ≤ 1000000 ∧ Qd (kD (tidyL (onesP l))) false
def r__law_of (T : Tx) : RS :=
  (sSeq (sRet (dOwn 1 sp__law_tidy (dPos 1 (dCons (dLc (iAny (dVar 0)) [] [1] (gN 1) dYes (dTup (dCons (dVar 1) (dCons (dC (.int 1)) dNil)))) dNil)))) sNext)
theorem pure__law_of (T : Tx) : ∀ ds Qd xd, ds.length = 1 → sp__law_of ds Qd xd → r__law_of T (kdOf Qd xd) (startE (["lot", "deg"] : List Str) ds) := by
  rintro _ Qd xd _ ⟨l, hd, hn, q⟩
  have hz : (l.map D.int).length ≤ sizeLine := small_line (by rw [List.length_map]; exact hn)
  have z2 : (2 : Nat) ≤ sizeLine := by decide
  rcases hd with rfl | rfl
  all_goals
    simp only [r__law_of, o_slot_sh, o_slot_own, o_var, o_c, o_op, o_un, o_nil, o_cons, o_consB, o_star, o_items_l, o_items_t, o_tup, o_lst, o_call, o_if, o_blOf, o_andV, o_orV, o_notV, o_test, o_and, o_or, o_not, o_truth, o_yes, o_chain, o_own, o_pos, o_kw, o_asObj, o_meth, o_cm, o_prop, o_sl, o_nth, o_make, o_tagO_t, o_tagO_f, o_slice, o_no, o_so, o_intOf, o_isi, o_fmt, o_js_nil, o_js_cons, o_m1, o_call1, o_next, o_seq, o_break, o_cont, o_ret, o_retN, o_drop, o_ifS, o_set, o_asg, o_put_p, o_put_f, o_put_b, o_leak_p, o_leak_f, o_leak_b, o_for, o_loop_nil, o_gN, o_gT, o_gL, o_gsNil, o_gsCons, o_any, o_enum, o_range1, o_range2, o_lc, o_lcL_nil, o_rev, o_turn, o_ownIn, o_sWr, o_sPut, o_sNever, o_kd_nx, o_kd_rt, o_kd_ex, o_frOf_p, o_frOf_f, o_frOf_b, List.getElem?_cons_zero, List.getElem?_cons_succ, List.map_cons, List.map_nil, List.cons_append, List.nil_append, List.append_nil, List.length_cons, List.length_nil, List.set_cons_zero, List.set_cons_succ, List.replicate, Nat.sub_self, Nat.zero_add, Nat.reduceAdd, Nat.reduceSub, if_true, if_false, Bool.false_eq_true, Bool.not_true, Bool.not_false, true_and, and_true, reduceIte, startE, frz, frz1, wipeE, Option.some.injEq, Sl.sh.injEq, Sl.own.injEq, o_nilT, o_consT, o_par, setD, unB, o_aug, o_augI, o_hN, o_hSub, o_hsNil, o_hsCons, o_hT, o_asgH, o_wrPop, o_dic, o_asT, v_asT_z, v_asT_t, v_asT_i, v_asT_l, o_methR, o_opR, o_ni, hz]
    refine lcL_map D.int (fun z => pD (z, 1)) (fun z hz R hR => ?_) ?_
    · simp only [o_slot_sh, o_slot_own, o_var, o_c, o_op, o_un, o_nil, o_cons, o_consB, o_star, o_items_l, o_items_t, o_tup, o_lst, o_call, o_if, o_blOf, o_andV, o_orV, o_notV, o_test, o_and, o_or, o_not, o_truth, o_yes, o_chain, o_own, o_pos, o_kw, o_asObj, o_meth, o_cm, o_prop, o_sl, o_nth, o_make, o_tagO_t, o_tagO_f, o_slice, o_no, o_so, o_intOf, o_isi, o_fmt, o_js_nil, o_js_cons, o_m1, o_call1, o_next, o_seq, o_break, o_cont, o_ret, o_retN, o_drop, o_ifS, o_set, o_asg, o_put_p, o_put_f, o_put_b, o_leak_p, o_leak_f, o_leak_b, o_for, o_loop_nil, o_gN, o_gT, o_gL, o_gsNil, o_gsCons, o_any, o_enum, o_range1, o_range2, o_lc, o_lcL_nil, o_rev, o_turn, o_ownIn, o_sWr, o_sPut, o_sNever, o_kd_nx, o_kd_rt, o_kd_ex, o_frOf_p, o_frOf_f, o_frOf_b, List.getElem?_cons_zero, List.getElem?_cons_succ, List.map_cons, List.map_nil, List.cons_append, List.nil_append, List.append_nil, List.length_cons, List.length_nil, List.set_cons_zero, List.set_cons_succ, List.replicate, Nat.sub_self, Nat.zero_add, Nat.reduceAdd, Nat.reduceSub, if_true, if_false, Bool.false_eq_true, Bool.not_true, Bool.not_false, true_and, and_true, reduceIte, startE, frz, frz1, wipeE, Option.some.injEq, Sl.sh.injEq, Sl.own.injEq, o_nilT, o_consT, o_par, setD, unB, o_aug, o_augI, o_hN, o_hSub, o_hsNil, o_hsCons, o_hT, o_asgH, o_wrPop, o_dic, o_asT, v_asT_z, v_asT_t, v_asT_i, v_asT_l, o_methR, o_opR, o_ni, Nat.reduceLT, Nat.lt_add_one, z2]
      exact hR
    · simp only [o_slot_sh, o_slot_own, o_var, o_c, o_op, o_un, o_nil, o_cons, o_consB, o_star, o_items_l, o_items_t, o_tup, o_lst, o_call, o_if, o_blOf, o_andV, o_orV, o_notV, o_test, o_and, o_or, o_not, o_truth, o_yes, o_chain, o_own, o_pos, o_kw, o_asObj, o_meth, o_cm, o_prop, o_sl, o_nth, o_make, o_tagO_t, o_tagO_f, o_slice, o_no, o_so, o_intOf, o_isi, o_fmt, o_js_nil, o_js_cons, o_m1, o_call1, o_next, o_seq, o_break, o_cont, o_ret, o_retN, o_drop, o_ifS, o_set, o_asg, o_put_p, o_put_f, o_put_b, o_leak_p, o_leak_f, o_leak_b, o_for, o_loop_nil, o_gN, o_gT, o_gL, o_gsNil, o_gsCons, o_any, o_enum, o_range1, o_range2, o_lc, o_lcL_nil, o_rev, o_turn, o_ownIn, o_sWr, o_sPut, o_sNever, o_kd_nx, o_kd_rt, o_kd_ex, o_frOf_p, o_frOf_f, o_frOf_b, List.getElem?_cons_zero, List.getElem?_cons_succ, List.map_cons, List.map_nil, List.cons_append, List.nil_append, List.append_nil, List.length_cons, List.length_nil, List.set_cons_zero, List.set_cons_succ, List.replicate, Nat.sub_self, Nat.zero_add, Nat.reduceAdd, Nat.reduceSub, if_true, if_false, Bool.false_eq_true, Bool.not_true, Bool.not_false, true_and, and_true, reduceIte, startE, frz, frz1, wipeE, Option.some.injEq, Sl.sh.injEq, Sl.own.injEq, o_nilT, o_consT, o_par, setD, unB, o_aug, o_augI, o_hN, o_hSub, o_hsNil, o_hsCons, o_hT, o_asgH, o_wrPop, o_dic, o_asT, v_asT_z, v_asT_t, v_asT_i, v_asT_l, o_methR, o_opR, o_ni, sp__law_tidy]
      exact ⟨onesP l, .inl (by unfold onesP; rw [List.map_map]; rfl), by unfold onesP; rw [List.length_map]; exact hn, q⟩

def sp_kind_lines : Sps := fun ds Qd _ => ∃ l, ds = [kD l] ∧ (∀ p ∈ l, KindOk p) ∧ l.length ≤ 1000000 ∧ Qd (.lst ((l.map lineS).map D.str)) true
def r_kind_lines (T : Tx) : RS :=
  (sSeq (sRet (dLc (iAny (dVar 0)) [] [1, 2] (gT 2 (gsCons (gN 1) (gsCons (gN 2) gsNil))) dYes (dJs [(dFmt (dVar 1)), (dC (.str " x ")), (dFmt (dVar 2))] Str.empty))) sNext)
theorem pure_kind_lines (T : Tx) : ∀ ds Qd xd, ds.length = 1 → sp_kind_lines ds Qd xd → r_kind_lines T (kdOf Qd xd) (startE (["kinds", "degree", "count"] : List Str) ds) := by
  rintro _ Qd xd _ ⟨l, rfl, hl, hn, q⟩
  have hz : (l.map pD).length ≤ sizeLine := by rw [List.length_map]; exact small_line hn
  simp only [r_kind_lines, o_slot_sh, o_slot_own, o_var, o_c, o_op, o_un, o_nil, o_cons, o_consB, o_star, o_items_l, o_items_t, o_tup, o_lst, o_call, o_if, o_blOf, o_andV, o_orV, o_notV, o_test, o_and, o_or, o_not, o_truth, o_yes, o_chain, o_own, o_pos, o_kw, o_asObj, o_meth, o_cm, o_prop, o_sl, o_nth, o_make, o_tagO_t, o_tagO_f, o_slice, o_no, o_so, o_intOf, o_isi, o_fmt, o_js_nil, o_js_cons, o_m1, o_call1, o_next, o_seq, o_break, o_cont, o_ret, o_retN, o_drop, o_ifS, o_set, o_asg, o_put_p, o_put_f, o_put_b, o_leak_p, o_leak_f, o_leak_b, o_for, o_loop_nil, o_gN, o_gT, o_gL, o_gsNil, o_gsCons, o_any, o_enum, o_range1, o_range2, o_lc, o_lcL_nil, o_rev, o_turn, o_ownIn, o_sWr, o_sPut, o_sNever, o_kd_nx, o_kd_rt, o_kd_ex, o_frOf_p, o_frOf_f, o_frOf_b, List.getElem?_cons_zero, List.getElem?_cons_succ, List.map_cons, List.map_nil, List.cons_append, List.nil_append, List.append_nil, List.length_cons, List.length_nil, List.set_cons_zero, List.set_cons_succ, List.replicate, Nat.sub_self, Nat.zero_add, Nat.reduceAdd, Nat.reduceSub, if_true, if_false, Bool.false_eq_true, Bool.not_true, Bool.not_false, true_and, and_true, reduceIte, startE, frz, frz1, wipeE, Option.some.injEq, Sl.sh.injEq, Sl.own.injEq, o_nilT, o_consT, o_par, setD, unB, o_aug, o_augI, o_hN, o_hSub, o_hsNil, o_hsCons, o_hT, o_asgH, o_wrPop, o_dic, o_asT, v_asT_z, v_asT_t, v_asT_i, v_asT_l, o_methR, o_opR, o_ni, kD, hz]
  refine lcL_map pD (fun p => .str (lineS p)) (fun p hp R hR => ?_) ?_
  · have hk := hl p hp
    have lo := log_kind hk
    have n1 := numS_len (i := p.1) hk.1 (by have := hk.2.1; omega)
    have n2 := numS_len (i := p.2) (by have := hk.2.2.1; omega) (by have := hk.2.2.2; omega)
    have f := lineS_f hk
    have e1 := numS_eq hk.1
    have e2 := numS_eq (i := p.2) (by have := hk.2.2.1; omega)
    rw [e1, e2] at f
    simp only [pD, o_slot_sh, o_slot_own, o_var, o_c, o_op, o_un, o_nil, o_cons, o_consB, o_star, o_items_l, o_items_t, o_tup, o_lst, o_call, o_if, o_blOf, o_andV, o_orV, o_notV, o_test, o_and, o_or, o_not, o_truth, o_yes, o_chain, o_own, o_pos, o_kw, o_asObj, o_meth, o_cm, o_prop, o_sl, o_nth, o_make, o_tagO_t, o_tagO_f, o_slice, o_no, o_so, o_intOf, o_isi, o_fmt, o_js_nil, o_js_cons, o_m1, o_call1, o_next, o_seq, o_break, o_cont, o_ret, o_retN, o_drop, o_ifS, o_set, o_asg, o_put_p, o_put_f, o_put_b, o_leak_p, o_leak_f, o_leak_b, o_for, o_loop_nil, o_gN, o_gT, o_gL, o_gsNil, o_gsCons, o_any, o_enum, o_range1, o_range2, o_lc, o_lcL_nil, o_rev, o_turn, o_ownIn, o_sWr, o_sPut, o_sNever, o_kd_nx, o_kd_rt, o_kd_ex, o_frOf_p, o_frOf_f, o_frOf_b, List.getElem?_cons_zero, List.getElem?_cons_succ, List.map_cons, List.map_nil, List.cons_append, List.nil_append, List.append_nil, List.length_cons, List.length_nil, List.set_cons_zero, List.set_cons_succ, List.replicate, Nat.sub_self, Nat.zero_add, Nat.reduceAdd, Nat.reduceSub, if_true, if_false, Bool.false_eq_true, Bool.not_true, Bool.not_false, true_and, and_true, reduceIte, startE, frz, frz1, wipeE, Option.some.injEq, Sl.sh.injEq, Sl.own.injEq, o_nilT, o_consT, o_par, setD, unB, o_aug, o_augI, o_hN, o_hSub, o_hsNil, o_hsCons, o_hT, o_asgH, o_wrPop, o_dic, o_asT, v_asT_z, v_asT_t, v_asT_i, v_asT_l, o_methR, o_opR, o_ni, lo, e1, e2, wipeE, Nat.reduceLT, Nat.lt_add_one]
    have e0 : (Str.empty).length = 0 := rfl
    have e3 : (" x " : Str).length = 3 := rfl
    simp only [strLen_append, e0, e3, f]
    exact ⟨small_line (by omega), small_line (by omega), small_line (by have := lineS_len hk; omega), hR⟩
  · simp only [o_slot_sh, o_slot_own, o_var, o_c, o_op, o_un, o_nil, o_cons, o_consB, o_star, o_items_l, o_items_t, o_tup, o_lst, o_call, o_if, o_blOf, o_andV, o_orV, o_notV, o_test, o_and, o_or, o_not, o_truth, o_yes, o_chain, o_own, o_pos, o_kw, o_asObj, o_meth, o_cm, o_prop, o_sl, o_nth, o_make, o_tagO_t, o_tagO_f, o_slice, o_no, o_so, o_intOf, o_isi, o_fmt, o_js_nil, o_js_cons, o_m1, o_call1, o_next, o_seq, o_break, o_cont, o_ret, o_retN, o_drop, o_ifS, o_set, o_asg, o_put_p, o_put_f, o_put_b, o_leak_p, o_leak_f, o_leak_b, o_for, o_loop_nil, o_gN, o_gT, o_gL, o_gsNil, o_gsCons, o_any, o_enum, o_range1, o_range2, o_lc, o_lcL_nil, o_rev, o_turn, o_ownIn, o_sWr, o_sPut, o_sNever, o_kd_nx, o_kd_rt, o_kd_ex, o_frOf_p, o_frOf_f, o_frOf_b, List.getElem?_cons_zero, List.getElem?_cons_succ, List.map_cons, List.map_nil, List.cons_append, List.nil_append, List.append_nil, List.length_cons, List.length_nil, List.set_cons_zero, List.set_cons_succ, List.replicate, Nat.sub_self, Nat.zero_add, Nat.reduceAdd, Nat.reduceSub, if_true, if_false, Bool.false_eq_true, Bool.not_true, Bool.not_false, true_and, and_true, reduceIte, startE, frz, frz1, wipeE, Option.some.injEq, Sl.sh.injEq, Sl.own.injEq, o_nilT, o_consT, o_par, setD, unB, o_aug, o_augI, o_hN, o_hSub, o_hsNil, o_hsCons, o_hT, o_asgH, o_wrPop, o_dic, o_asT, v_asT_z, v_asT_t, v_asT_i, v_asT_l, o_methR, o_opR, o_ni]
    rw [List.map_map] at q
    exact q

def sp_Row___str__ : Sps := fun ds Qd _ => ∃ l, ds = [.obj 0 [kD l]] ∧ GoodK l ∧ Qd (.str (textS l)) false
def r_Row___str__ (T : Tx) : RS :=
  (sSeq (sRet (dM1 mJoin (dC (.str "\n")) (dLst (dCons (dC (.str "row")) (dStar (dOwn 1 sp_kind_lines (dPos 1 (dCons (dSl 0 0 (dVar 0)) dNil))) dNil))))) sNext)
theorem pure_Row___str__ (T : Tx) : ∀ ds Qd xd, ds.length = 1 → sp_Row___str__ ds Qd xd → r_Row___str__ T (kdOf Qd xd) (startE (["self"] : List Str) ds) := by
  rintro _ Qd xd _ ⟨l, rfl, hl, q⟩
  have n : l.length ≤ 1000000 := by have := hl.len; omega
  have z : l.length + 1 ≤ sizeLine := small_line (by have := hl.len; omega)
  simp only [r_Row___str__, o_slot_sh, o_slot_own, o_var, o_c, o_op, o_un, o_nil, o_cons, o_consB, o_star, o_items_l, o_items_t, o_tup, o_lst, o_call, o_if, o_blOf, o_andV, o_orV, o_notV, o_test, o_and, o_or, o_not, o_truth, o_yes, o_chain, o_own, o_pos, o_kw, o_asObj, o_meth, o_cm, o_prop, o_sl, o_nth, o_make, o_tagO_t, o_tagO_f, o_slice, o_no, o_so, o_intOf, o_isi, o_fmt, o_js_nil, o_js_cons, o_m1, o_call1, o_next, o_seq, o_break, o_cont, o_ret, o_retN, o_drop, o_ifS, o_set, o_asg, o_put_p, o_put_f, o_put_b, o_leak_p, o_leak_f, o_leak_b, o_for, o_loop_nil, o_gN, o_gT, o_gL, o_gsNil, o_gsCons, o_any, o_enum, o_range1, o_range2, o_lc, o_lcL_nil, o_rev, o_turn, o_ownIn, o_sWr, o_sPut, o_sNever, o_kd_nx, o_kd_rt, o_kd_ex, o_frOf_p, o_frOf_f, o_frOf_b, List.getElem?_cons_zero, List.getElem?_cons_succ, List.map_cons, List.map_nil, List.cons_append, List.nil_append, List.append_nil, List.length_cons, List.length_nil, List.set_cons_zero, List.set_cons_succ, List.replicate, Nat.sub_self, Nat.zero_add, Nat.reduceAdd, Nat.reduceSub, if_true, if_false, Bool.false_eq_true, Bool.not_true, Bool.not_false, true_and, and_true, reduceIte, startE, frz, frz1, wipeE, Option.some.injEq, Sl.sh.injEq, Sl.own.injEq, o_nilT, o_consT, o_par, setD, unB, o_aug, o_augI, o_hN, o_hSub, o_hsNil, o_hsCons, o_hT, o_asgH, o_wrPop, o_dic, o_asT, v_asT_z, v_asT_t, v_asT_i, v_asT_l, o_methR, o_opR, o_ni, v_strD, sp_kind_lines]
  refine ⟨l, rfl, hl.ok, n, ?_⟩
  simp only [o_slot_sh, o_slot_own, o_var, o_c, o_op, o_un, o_nil, o_cons, o_consB, o_star, o_items_l, o_items_t, o_tup, o_lst, o_call, o_if, o_blOf, o_andV, o_orV, o_notV, o_test, o_and, o_or, o_not, o_truth, o_yes, o_chain, o_own, o_pos, o_kw, o_asObj, o_meth, o_cm, o_prop, o_sl, o_nth, o_make, o_tagO_t, o_tagO_f, o_slice, o_no, o_so, o_intOf, o_isi, o_fmt, o_js_nil, o_js_cons, o_m1, o_call1, o_next, o_seq, o_break, o_cont, o_ret, o_retN, o_drop, o_ifS, o_set, o_asg, o_put_p, o_put_f, o_put_b, o_leak_p, o_leak_f, o_leak_b, o_for, o_loop_nil, o_gN, o_gT, o_gL, o_gsNil, o_gsCons, o_any, o_enum, o_range1, o_range2, o_lc, o_lcL_nil, o_rev, o_turn, o_ownIn, o_sWr, o_sPut, o_sNever, o_kd_nx, o_kd_rt, o_kd_ex, o_frOf_p, o_frOf_f, o_frOf_b, List.getElem?_cons_zero, List.getElem?_cons_succ, List.map_cons, List.map_nil, List.cons_append, List.nil_append, List.append_nil, List.length_cons, List.length_nil, List.set_cons_zero, List.set_cons_succ, List.replicate, Nat.sub_self, Nat.zero_add, Nat.reduceAdd, Nat.reduceSub, if_true, if_false, Bool.false_eq_true, Bool.not_true, Bool.not_false, true_and, and_true, reduceIte, startE, frz, frz1, wipeE, Option.some.injEq, Sl.sh.injEq, Sl.own.injEq, o_nilT, o_consT, o_par, setD, unB, o_aug, o_augI, o_hN, o_hSub, o_hsNil, o_hsCons, o_hT, o_asgH, o_wrPop, o_dic, o_asT, v_asT_z, v_asT_t, v_asT_i, v_asT_l, o_methR, o_opR, o_ni, List.length_map, z, mJoin]
  exact ⟨("row" : Str) :: l.map lineS, rfl, text_sum hl, by rw [text_eq]; exact q⟩

def sp_Row_text : Sps := fun ds Qd _ => ∃ l, ds = [.obj 0 [kD l]] ∧ GoodK l ∧ Qd (.str (textS l)) false
def r_Row_text (T : Tx) : RS :=
  (sSeq (sRet (dCall1 fStr (spOr 0 (strS sp_Row___str__) spNone) (dVar 0))) sNext)
theorem pure_Row_text (T : Tx) : ∀ ds Qd xd, ds.length = 1 → sp_Row_text ds Qd xd → r_Row_text T (kdOf Qd xd) (startE (["self"] : List Str) ds) := by
  rintro _ Qd xd _ ⟨l, rfl, hl, q⟩
  simp only [r_Row_text, o_slot_sh, o_slot_own, o_var, o_c, o_op, o_un, o_nil, o_cons, o_consB, o_star, o_items_l, o_items_t, o_tup, o_lst, o_call, o_if, o_blOf, o_andV, o_orV, o_notV, o_test, o_and, o_or, o_not, o_truth, o_yes, o_chain, o_own, o_pos, o_kw, o_asObj, o_meth, o_cm, o_prop, o_sl, o_nth, o_make, o_tagO_t, o_tagO_f, o_slice, o_no, o_so, o_intOf, o_isi, o_fmt, o_js_nil, o_js_cons, o_m1, o_call1, o_next, o_seq, o_break, o_cont, o_ret, o_retN, o_drop, o_ifS, o_set, o_asg, o_put_p, o_put_f, o_put_b, o_leak_p, o_leak_f, o_leak_b, o_for, o_loop_nil, o_gN, o_gT, o_gL, o_gsNil, o_gsCons, o_any, o_enum, o_range1, o_range2, o_lc, o_lcL_nil, o_rev, o_turn, o_ownIn, o_sWr, o_sPut, o_sNever, o_kd_nx, o_kd_rt, o_kd_ex, o_frOf_p, o_frOf_f, o_frOf_b, List.getElem?_cons_zero, List.getElem?_cons_succ, List.map_cons, List.map_nil, List.cons_append, List.nil_append, List.append_nil, List.length_cons, List.length_nil, List.set_cons_zero, List.set_cons_succ, List.replicate, Nat.sub_self, Nat.zero_add, Nat.reduceAdd, Nat.reduceSub, if_true, if_false, Bool.false_eq_true, Bool.not_true, Bool.not_false, true_and, and_true, reduceIte, startE, frz, frz1, wipeE, Option.some.injEq, Sl.sh.injEq, Sl.own.injEq, o_nilT, o_consT, o_par, setD, unB, o_aug, o_augI, o_hN, o_hSub, o_hsNil, o_hsCons, o_hT, o_asgH, o_wrPop, o_dic, o_asT, v_asT_z, v_asT_t, v_asT_i, v_asT_l, o_methR, o_opR, o_ni, spOr, strS, sp_Row___str__]
  exact ⟨l, rfl, hl, q⟩

theorem eqD_p (p q : Int × Int) : eqD (pD p) (pD q) = decide (p = q) := by
  show ((p.1 == q.1) && ((p.2 == q.2) && true)) = decide (p = q)
  obtain ⟨a, b⟩ := p
  obtain ⟨c, d⟩ := q
  by_cases h : a = c
  · by_cases h2 : b = d
    · simp [h, h2]
    · simp [h, h2]
  · simp [h]
theorem eqD_kD : ∀ l m : List (Int × Int), eqD (kD l) (kD m) = decide (l = m)
  | [], [] => rfl
  | [], _ :: _ => rfl
  | _ :: _, [] => rfl
  | p :: l, q :: m => by
    have ih : PyData.eqvAll (pys (l.map pD)) (pys (m.map pD)) = decide (l = m) := eqD_kD l m
    have h := eqD_p p q
    show (eqD (pD p) (pD q) && PyData.eqvAll (pys (l.map pD)) (pys (m.map pD))) = _
    rw [ih, h]
    by_cases a : p = q <;> by_cases b : l = m <;> simp [a, b]
/-- an instance of Row, or what is none -/
def rowQ : D → Option (List (Int × Int)) → Prop
  | .obj 0 os, m => ∃ l, m = some l ∧ os = [kD l] ∧ ∀ p ∈ l, KindOk p
  | .obj _ _, _ => False
  | .non, m => m = none
  | .bl _, m => m = none
  | .int _, m => m = none
  | .str _, m => m = none
  | .tup _, m => m = none
  | .lst _, m => m = none
  | .dic _, m => m = none
  | _, _ => False
def sp_Row___eq__ : Sps := fun ds Qd _ => ∃ l d m, ds = [.obj 0 [kD l], d] ∧ (∀ p ∈ l, KindOk p) ∧ rowQ d m ∧ Qd (.bl (decide (m = some l))) false
def r_Row___eq__ (T : Tx) : RS :=
  (sSeq (sRet (dAndV (dIsi (kindD {} (T.ob 0)) (dVar 1)) (dOp fEq (dSl 0 0 (dVar 0)) (dSl 0 0 (dVar 1))))) sNext)
theorem pure_Row___eq__ (T : Tx) (ho : T.ob 0 0 = some true) : ∀ ds Qd xd, ds.length = 2 → sp_Row___eq__ ds Qd xd → r_Row___eq__ T (kdOf Qd xd) (startE (["self", "other"] : List Str) ds) := by
  rintro _ Qd xd _ ⟨l, d, m, rfl, hl, hd, q⟩
  simp only [r_Row___eq__, o_slot_sh, o_slot_own, o_var, o_c, o_op, o_un, o_nil, o_cons, o_consB, o_star, o_items_l, o_items_t, o_tup, o_lst, o_call, o_if, o_blOf, o_andV, o_orV, o_notV, o_test, o_and, o_or, o_not, o_truth, o_yes, o_chain, o_own, o_pos, o_kw, o_asObj, o_meth, o_cm, o_prop, o_sl, o_nth, o_make, o_tagO_t, o_tagO_f, o_slice, o_no, o_so, o_intOf, o_isi, o_fmt, o_js_nil, o_js_cons, o_m1, o_call1, o_next, o_seq, o_break, o_cont, o_ret, o_retN, o_drop, o_ifS, o_set, o_asg, o_put_p, o_put_f, o_put_b, o_leak_p, o_leak_f, o_leak_b, o_for, o_loop_nil, o_gN, o_gT, o_gL, o_gsNil, o_gsCons, o_any, o_enum, o_range1, o_range2, o_lc, o_lcL_nil, o_rev, o_turn, o_ownIn, o_sWr, o_sPut, o_sNever, o_kd_nx, o_kd_rt, o_kd_ex, o_frOf_p, o_frOf_f, o_frOf_b, List.getElem?_cons_zero, List.getElem?_cons_succ, List.map_cons, List.map_nil, List.cons_append, List.nil_append, List.append_nil, List.length_cons, List.length_nil, List.set_cons_zero, List.set_cons_succ, List.replicate, Nat.sub_self, Nat.zero_add, Nat.reduceAdd, Nat.reduceSub, if_true, if_false, Bool.false_eq_true, Bool.not_true, Bool.not_false, true_and, and_true, reduceIte, startE, frz, frz1, wipeE, Option.some.injEq, Sl.sh.injEq, Sl.own.injEq, o_nilT, o_consT, o_par, setD, unB, o_aug, o_augI, o_hN, o_hSub, o_hsNil, o_hsCons, o_hT, o_asgH, o_wrPop, o_dic, o_asT, v_asT_z, v_asT_t, v_asT_i, v_asT_l, o_methR, o_opR, o_ni]
  cases d
  case obj k os _ =>
    cases k with
    | zero =>
      obtain ⟨l2, rfl, rfl, h2⟩ := hd
      refine ⟨true, ho, ?_⟩
      have e : decide (some l2 = some l) = decide (l = l2) := decide_eq_decide.mpr ⟨fun e => (Option.some.inj e).symm, fun e => by rw [e]⟩
      rw [e] at q
      simp only [o_slot_sh, o_slot_own, o_var, o_c, o_op, o_un, o_nil, o_cons, o_consB, o_star, o_items_l, o_items_t, o_tup, o_lst, o_call, o_if, o_blOf, o_andV, o_orV, o_notV, o_test, o_and, o_or, o_not, o_truth, o_yes, o_chain, o_own, o_pos, o_kw, o_asObj, o_meth, o_cm, o_prop, o_sl, o_nth, o_make, o_tagO_t, o_tagO_f, o_slice, o_no, o_so, o_intOf, o_isi, o_fmt, o_js_nil, o_js_cons, o_m1, o_call1, o_next, o_seq, o_break, o_cont, o_ret, o_retN, o_drop, o_ifS, o_set, o_asg, o_put_p, o_put_f, o_put_b, o_leak_p, o_leak_f, o_leak_b, o_for, o_loop_nil, o_gN, o_gT, o_gL, o_gsNil, o_gsCons, o_any, o_enum, o_range1, o_range2, o_lc, o_lcL_nil, o_rev, o_turn, o_ownIn, o_sWr, o_sPut, o_sNever, o_kd_nx, o_kd_rt, o_kd_ex, o_frOf_p, o_frOf_f, o_frOf_b, List.getElem?_cons_zero, List.getElem?_cons_succ, List.map_cons, List.map_nil, List.cons_append, List.nil_append, List.append_nil, List.length_cons, List.length_nil, List.set_cons_zero, List.set_cons_succ, List.replicate, Nat.sub_self, Nat.zero_add, Nat.reduceAdd, Nat.reduceSub, if_true, if_false, Bool.false_eq_true, Bool.not_true, Bool.not_false, true_and, and_true, reduceIte, startE, frz, frz1, wipeE, Option.some.injEq, Sl.sh.injEq, Sl.own.injEq, o_nilT, o_consT, o_par, setD, unB, o_aug, o_augI, o_hN, o_hSub, o_hsNil, o_hsCons, o_hT, o_asgH, o_wrPop, o_dic, o_asT, v_asT_z, v_asT_t, v_asT_i, v_asT_l, o_methR, o_opR, o_ni, fEq, okEq_kD hl, okEq_kD h2, eqD_kD]
      exact q
    | succ k => exact hd.elim
  all_goals first
    | exact hd.elim
    | (have e : m = none := hd; subst e; exact ⟨false, rfl, q⟩)

def things : List D := [.non, .bl true, .bl false, .int 0, .int 1, .int (-1), .int 2, .int (10 ^ 31), .int (10 ^ 31 + 1), .int (10 ^ 39), .str "", .str "a", .str "row", .str "row\n1 x 2", .tup [], .tup [.int 0],
  .lst [.int 1], .dic [], .dic [(.inr "a", .int 1)], .tup [.int 1, .int 2], .tup [.tup [.int 1, .int 2]], .lst [.tup [.int 1, .int 2]], .tup [.str "can"], .tup [.str "alone", .int 1], .str "tied", .str "1 x 2", .tup [.non], .lst [], .str "2"]
def sp__law_thing : Sps := fun ds Qd _ => ds = [.ptr] ∧ ∀ d ∈ things, Qd d false
def r__law_thing (T : Tx) : RS :=
  (sSeq (sSet 1 (dLst (dCons (dC .non) (dCons (dC (.bl true)) (dCons (dC (.bl false)) (dCons (dC (.int 0)) (dCons (dC (.int 1)) (dCons (dUn fNeg (dC (.int 1))) (dCons (dC (.int 2)) (dCons (dOp fPow (dC (.int 10)) (dC (.int 31))) (dCons (dOp fAdd (dOp fPow (dC (.int 10)) (dC (.int 31))) (dC (.int 1))) (dCons (dOp fPow (dC (.int 10)) (dC (.int 39))) (dCons (dC (.str "")) (dCons (dC (.str "a")) (dCons (dC (.str "row")) (dCons (dC (.str "row\n1 x 2")) (dCons (dTup dNil) (dCons (dTup (dCons (dC (.int 0)) dNil)) dNil)))))))))))))))))) (sSeq (sSet 1 (dOp fAdd (dVar 1) (dLst (dCons (dLst (dCons (dC (.int 1)) dNil)) (dCons (fun _ ρ Q => Q (.dic []) .f ρ) (dCons (dDic [(Sum.inr "a", .int 1)]) (dCons (dTup (dCons (dC (.int 1)) (dCons (dC (.int 2)) dNil))) (dCons (dTup (dCons (dTup (dCons (dC (.int 1)) (dCons (dC (.int 2)) dNil))) dNil)) (dCons (dLst (dCons (dTup (dCons (dC (.int 1)) (dCons (dC (.int 2)) dNil))) dNil)) (dCons (dTup (dCons (dC (.str "can")) dNil)) (dCons (dTup (dCons (dC (.str "alone")) (dCons (dC (.int 1)) dNil))) (dCons (dC (.str "tied")) (dCons (dC (.str "1 x 2")) (dCons (dTup (dCons (dC .non) dNil)) dNil)))))))))))))) (sSeq (sRet (dOwn 2 sp__law_any_of (dPos 2 (dCons (dVar 0) (dCons (dOp fAdd (dVar 1) (dLst (dCons (dLst dNil) (dCons (dC (.str "2")) dNil)))) dNil))))) sNext)))
theorem pure__law_thing (T : Tx) : ∀ ds Qd xd, ds.length = 1 → sp__law_thing ds Qd xd → r__law_thing T (kdOf Qd xd) (startE (["pail", "menu"] : List Str) ds) := by
  rintro _ Qd xd _ ⟨rfl, q⟩
  have z0 : (0 : Nat) ≤ sizeLine := by decide
  have z1 : (1 : Nat) ≤ sizeLine := by decide
  have z2 : (2 : Nat) ≤ sizeLine := by decide
  have z11 : (11 : Nat) ≤ sizeLine := by decide
  have z16 : (16 : Nat) ≤ sizeLine := by decide
  have z27 : (27 : Nat) ≤ sizeLine := by decide
  have z29 : (29 : Nat) ≤ sizeLine := by decide
  unfold r__law_thing
  refine seq_bar fun K1 hK1 => ?_
  simp only [o_slot_sh, o_slot_own, o_var, o_c, o_op, o_un, o_nil, o_cons, o_consB, o_star, o_items_l, o_items_t, o_tup, o_lst, o_call, o_if, o_blOf, o_andV, o_orV, o_notV, o_test, o_and, o_or, o_not, o_truth, o_yes, o_chain, o_own, o_pos, o_kw, o_asObj, o_meth, o_cm, o_prop, o_sl, o_nth, o_make, o_tagO_t, o_tagO_f, o_slice, o_no, o_so, o_intOf, o_isi, o_fmt, o_js_nil, o_js_cons, o_m1, o_call1, o_next, o_seq, o_break, o_cont, o_ret, o_retN, o_drop, o_ifS, o_set, o_asg, o_put_p, o_put_f, o_put_b, o_leak_p, o_leak_f, o_leak_b, o_for, o_loop_nil, o_gN, o_gT, o_gL, o_gsNil, o_gsCons, o_any, o_enum, o_range1, o_range2, o_lc, o_lcL_nil, o_rev, o_turn, o_ownIn, o_sWr, o_sPut, o_sNever, o_kd_nx, o_kd_rt, o_kd_ex, o_frOf_p, o_frOf_f, o_frOf_b, List.getElem?_cons_zero, List.getElem?_cons_succ, List.map_cons, List.map_nil, List.cons_append, List.nil_append, List.append_nil, List.length_cons, List.length_nil, List.set_cons_zero, List.set_cons_succ, List.replicate, Nat.sub_self, Nat.zero_add, Nat.reduceAdd, Nat.reduceSub, if_true, if_false, Bool.false_eq_true, Bool.not_true, Bool.not_false, true_and, and_true, reduceIte, startE, frz, frz1, wipeE, Option.some.injEq, Sl.sh.injEq, Sl.own.injEq, o_nilT, o_consT, o_par, setD, unB, o_aug, o_augI, o_hN, o_hSub, o_hsNil, o_hsCons, o_hT, o_asgH, o_wrPop, o_dic, o_asT, v_asT_z, v_asT_t, v_asT_i, v_asT_l, o_methR, o_opR, o_ni, v_negi, v_p31, v_p39, v_addi, z0, z1, z2, z11, z16, Nat.reduceLT, Nat.lt_add_one]
  refine hK1 _ (seq_bar fun K2 hK2 => ?_)
  simp only [o_slot_sh, o_slot_own, o_var, o_c, o_op, o_un, o_nil, o_cons, o_consB, o_star, o_items_l, o_items_t, o_tup, o_lst, o_call, o_if, o_blOf, o_andV, o_orV, o_notV, o_test, o_and, o_or, o_not, o_truth, o_yes, o_chain, o_own, o_pos, o_kw, o_asObj, o_meth, o_cm, o_prop, o_sl, o_nth, o_make, o_tagO_t, o_tagO_f, o_slice, o_no, o_so, o_intOf, o_isi, o_fmt, o_js_nil, o_js_cons, o_m1, o_call1, o_next, o_seq, o_break, o_cont, o_ret, o_retN, o_drop, o_ifS, o_set, o_asg, o_put_p, o_put_f, o_put_b, o_leak_p, o_leak_f, o_leak_b, o_for, o_loop_nil, o_gN, o_gT, o_gL, o_gsNil, o_gsCons, o_any, o_enum, o_range1, o_range2, o_lc, o_lcL_nil, o_rev, o_turn, o_ownIn, o_sWr, o_sPut, o_sNever, o_kd_nx, o_kd_rt, o_kd_ex, o_frOf_p, o_frOf_f, o_frOf_b, List.getElem?_cons_zero, List.getElem?_cons_succ, List.map_cons, List.map_nil, List.cons_append, List.nil_append, List.append_nil, List.length_cons, List.length_nil, List.set_cons_zero, List.set_cons_succ, List.replicate, Nat.sub_self, Nat.zero_add, Nat.reduceAdd, Nat.reduceSub, if_true, if_false, Bool.false_eq_true, Bool.not_true, Bool.not_false, true_and, and_true, reduceIte, startE, frz, frz1, wipeE, Option.some.injEq, Sl.sh.injEq, Sl.own.injEq, o_nilT, o_consT, o_par, setD, unB, o_aug, o_augI, o_hN, o_hSub, o_hsNil, o_hsCons, o_hT, o_asgH, o_wrPop, o_dic, o_asT, v_asT_z, v_asT_t, v_asT_i, v_asT_l, o_methR, o_opR, o_ni, fAdd, z0, z1, z2, z11, z16, z27, Nat.reduceLT, Nat.lt_add_one, List.length_append]
  refine hK2 _ ?_
  simp only [o_slot_sh, o_slot_own, o_var, o_c, o_op, o_un, o_nil, o_cons, o_consB, o_star, o_items_l, o_items_t, o_tup, o_lst, o_call, o_if, o_blOf, o_andV, o_orV, o_notV, o_test, o_and, o_or, o_not, o_truth, o_yes, o_chain, o_own, o_pos, o_kw, o_asObj, o_meth, o_cm, o_prop, o_sl, o_nth, o_make, o_tagO_t, o_tagO_f, o_slice, o_no, o_so, o_intOf, o_isi, o_fmt, o_js_nil, o_js_cons, o_m1, o_call1, o_next, o_seq, o_break, o_cont, o_ret, o_retN, o_drop, o_ifS, o_set, o_asg, o_put_p, o_put_f, o_put_b, o_leak_p, o_leak_f, o_leak_b, o_for, o_loop_nil, o_gN, o_gT, o_gL, o_gsNil, o_gsCons, o_any, o_enum, o_range1, o_range2, o_lc, o_lcL_nil, o_rev, o_turn, o_ownIn, o_sWr, o_sPut, o_sNever, o_kd_nx, o_kd_rt, o_kd_ex, o_frOf_p, o_frOf_f, o_frOf_b, List.getElem?_cons_zero, List.getElem?_cons_succ, List.map_cons, List.map_nil, List.cons_append, List.nil_append, List.append_nil, List.length_cons, List.length_nil, List.set_cons_zero, List.set_cons_succ, List.replicate, Nat.sub_self, Nat.zero_add, Nat.reduceAdd, Nat.reduceSub, if_true, if_false, Bool.false_eq_true, Bool.not_true, Bool.not_false, true_and, and_true, reduceIte, startE, frz, frz1, wipeE, Option.some.injEq, Sl.sh.injEq, Sl.own.injEq, o_nilT, o_consT, o_par, setD, unB, o_aug, o_augI, o_hN, o_hSub, o_hsNil, o_hsCons, o_hT, o_asgH, o_wrPop, o_dic, o_asT, v_asT_z, v_asT_t, v_asT_i, v_asT_l, o_methR, o_opR, o_ni, fAdd, z0, z2, z27, z29, List.length_append, sp__law_any_of]
  exact ⟨_, .inl rfl, by simp, by decide, fun d hd => q d hd⟩

def sp_Row_kinds : Sps := fun ds Qd _ => ∃ d, ds = [.obj 0 [d]] ∧ Qd d false
def r_Row_kinds (T : Tx) : RS :=
  (sSeq (sRet (dSl 0 0 (dVar 0))) sNext)
theorem pure_Row_kinds (T : Tx) : ∀ ds Qd xd, ds.length = 1 → sp_Row_kinds ds Qd xd → r_Row_kinds T (kdOf Qd xd) (startE (["self"] : List Str) ds) := by
  rintro _ Qd xd _ ⟨d, rfl, q⟩
  simp only [r_Row_kinds, o_slot_sh, o_slot_own, o_var, o_c, o_op, o_un, o_nil, o_cons, o_consB, o_star, o_items_l, o_items_t, o_tup, o_lst, o_call, o_if, o_blOf, o_andV, o_orV, o_notV, o_test, o_and, o_or, o_not, o_truth, o_yes, o_chain, o_own, o_pos, o_kw, o_asObj, o_meth, o_cm, o_prop, o_sl, o_nth, o_make, o_tagO_t, o_tagO_f, o_slice, o_no, o_so, o_intOf, o_isi, o_fmt, o_js_nil, o_js_cons, o_m1, o_call1, o_next, o_seq, o_break, o_cont, o_ret, o_retN, o_drop, o_ifS, o_set, o_asg, o_put_p, o_put_f, o_put_b, o_leak_p, o_leak_f, o_leak_b, o_for, o_loop_nil, o_gN, o_gT, o_gL, o_gsNil, o_gsCons, o_any, o_enum, o_range1, o_range2, o_lc, o_lcL_nil, o_rev, o_turn, o_ownIn, o_sWr, o_sPut, o_sNever, o_kd_nx, o_kd_rt, o_kd_ex, o_frOf_p, o_frOf_f, o_frOf_b, List.getElem?_cons_zero, List.getElem?_cons_succ, List.map_cons, List.map_nil, List.cons_append, List.nil_append, List.append_nil, List.length_cons, List.length_nil, List.set_cons_zero, List.set_cons_succ, List.replicate, Nat.sub_self, Nat.zero_add, Nat.reduceAdd, Nat.reduceSub, if_true, if_false, Bool.false_eq_true, Bool.not_true, Bool.not_false, true_and, and_true, reduceIte, startE, frz, frz1, wipeE, Option.some.injEq, Sl.sh.injEq, Sl.own.injEq, o_nilT, o_consT, o_par, setD, unB, o_aug, o_augI, o_hN, o_hSub, o_hsNil, o_hsCons, o_hT, o_asgH, o_wrPop, o_dic, o_asT, v_asT_z, v_asT_t, v_asT_i, v_asT_l, o_methR, o_opR, o_ni]
  exact q

def sp_places_of : Sps := fun ds Qd _ => ∃ l, ds = [kD l] ∧ l.length ≤ 1000000 ∧ Qd (.int (placesK l)) false
def r_places_of (T : Tx) : RS :=
  (sSeq (sRet (dCall fSum (dConsB (dLc (iAny (dVar 0)) [] [1, 2] (gT 2 (gsCons (gN 1) (gsCons (gN 2) gsNil))) dYes (dVar 2)) dNil))) sNext)
theorem pure_places_of (T : Tx) : ∀ ds Qd xd, ds.length = 1 → sp_places_of ds Qd xd → r_places_of T (kdOf Qd xd) (startE (["kinds", "degree", "count"] : List Str) ds) := by
  rintro _ Qd xd _ ⟨l, rfl, hn, q⟩
  have hz : l.length ≤ sizeLine := small_line hn
  simp only [r_places_of, o_slot_sh, o_slot_own, o_var, o_c, o_op, o_un, o_nil, o_cons, o_consB, o_star, o_items_l, o_items_t, o_tup, o_lst, o_call, o_if, o_blOf, o_andV, o_orV, o_notV, o_test, o_and, o_or, o_not, o_truth, o_yes, o_chain, o_own, o_pos, o_kw, o_asObj, o_meth, o_cm, o_prop, o_sl, o_nth, o_make, o_tagO_t, o_tagO_f, o_slice, o_no, o_so, o_intOf, o_isi, o_fmt, o_js_nil, o_js_cons, o_m1, o_call1, o_next, o_seq, o_break, o_cont, o_ret, o_retN, o_drop, o_ifS, o_set, o_asg, o_put_p, o_put_f, o_put_b, o_leak_p, o_leak_f, o_leak_b, o_for, o_loop_nil, o_gN, o_gT, o_gL, o_gsNil, o_gsCons, o_any, o_enum, o_range1, o_range2, o_lc, o_lcL_nil, o_rev, o_turn, o_ownIn, o_sWr, o_sPut, o_sNever, o_kd_nx, o_kd_rt, o_kd_ex, o_frOf_p, o_frOf_f, o_frOf_b, List.getElem?_cons_zero, List.getElem?_cons_succ, List.map_cons, List.map_nil, List.cons_append, List.nil_append, List.append_nil, List.length_cons, List.length_nil, List.set_cons_zero, List.set_cons_succ, List.replicate, Nat.sub_self, Nat.zero_add, Nat.reduceAdd, Nat.reduceSub, if_true, if_false, Bool.false_eq_true, Bool.not_true, Bool.not_false, true_and, and_true, reduceIte, startE, frz, frz1, wipeE, Option.some.injEq, Sl.sh.injEq, Sl.own.injEq, o_nilT, o_consT, o_par, setD, unB, o_aug, o_augI, o_hN, o_hSub, o_hsNil, o_hsCons, o_hT, o_asgH, o_wrPop, o_dic, o_asT, v_asT_z, v_asT_t, v_asT_i, v_asT_l, o_methR, o_opR, o_ni, kD, List.length_map, hz]
  refine lcL_map pD (fun p => .int p.2) (fun p hp R hR => ?_) ?_
  · simp only [pD, o_slot_sh, o_slot_own, o_var, o_c, o_op, o_un, o_nil, o_cons, o_consB, o_star, o_items_l, o_items_t, o_tup, o_lst, o_call, o_if, o_blOf, o_andV, o_orV, o_notV, o_test, o_and, o_or, o_not, o_truth, o_yes, o_chain, o_own, o_pos, o_kw, o_asObj, o_meth, o_cm, o_prop, o_sl, o_nth, o_make, o_tagO_t, o_tagO_f, o_slice, o_no, o_so, o_intOf, o_isi, o_fmt, o_js_nil, o_js_cons, o_m1, o_call1, o_next, o_seq, o_break, o_cont, o_ret, o_retN, o_drop, o_ifS, o_set, o_asg, o_put_p, o_put_f, o_put_b, o_leak_p, o_leak_f, o_leak_b, o_for, o_loop_nil, o_gN, o_gT, o_gL, o_gsNil, o_gsCons, o_any, o_enum, o_range1, o_range2, o_lc, o_lcL_nil, o_rev, o_turn, o_ownIn, o_sWr, o_sPut, o_sNever, o_kd_nx, o_kd_rt, o_kd_ex, o_frOf_p, o_frOf_f, o_frOf_b, List.getElem?_cons_zero, List.getElem?_cons_succ, List.map_cons, List.map_nil, List.cons_append, List.nil_append, List.append_nil, List.length_cons, List.length_nil, List.set_cons_zero, List.set_cons_succ, List.replicate, Nat.sub_self, Nat.zero_add, Nat.reduceAdd, Nat.reduceSub, if_true, if_false, Bool.false_eq_true, Bool.not_true, Bool.not_false, true_and, and_true, reduceIte, startE, frz, frz1, wipeE, Option.some.injEq, Sl.sh.injEq, Sl.own.injEq, o_nilT, o_consT, o_par, setD, unB, o_aug, o_augI, o_hN, o_hSub, o_hsNil, o_hsCons, o_hT, o_asgH, o_wrPop, o_dic, o_asT, v_asT_z, v_asT_t, v_asT_i, v_asT_l, o_methR, o_opR, o_ni, Nat.reduceLT, Nat.lt_add_one]
    exact hR
  · simp only [o_slot_sh, o_slot_own, o_var, o_c, o_op, o_un, o_nil, o_cons, o_consB, o_star, o_items_l, o_items_t, o_tup, o_lst, o_call, o_if, o_blOf, o_andV, o_orV, o_notV, o_test, o_and, o_or, o_not, o_truth, o_yes, o_chain, o_own, o_pos, o_kw, o_asObj, o_meth, o_cm, o_prop, o_sl, o_nth, o_make, o_tagO_t, o_tagO_f, o_slice, o_no, o_so, o_intOf, o_isi, o_fmt, o_js_nil, o_js_cons, o_m1, o_call1, o_next, o_seq, o_break, o_cont, o_ret, o_retN, o_drop, o_ifS, o_set, o_asg, o_put_p, o_put_f, o_put_b, o_leak_p, o_leak_f, o_leak_b, o_for, o_loop_nil, o_gN, o_gT, o_gL, o_gsNil, o_gsCons, o_any, o_enum, o_range1, o_range2, o_lc, o_lcL_nil, o_rev, o_turn, o_ownIn, o_sWr, o_sPut, o_sNever, o_kd_nx, o_kd_rt, o_kd_ex, o_frOf_p, o_frOf_f, o_frOf_b, List.getElem?_cons_zero, List.getElem?_cons_succ, List.map_cons, List.map_nil, List.cons_append, List.nil_append, List.append_nil, List.length_cons, List.length_nil, List.set_cons_zero, List.set_cons_succ, List.replicate, Nat.sub_self, Nat.zero_add, Nat.reduceAdd, Nat.reduceSub, if_true, if_false, Bool.false_eq_true, Bool.not_true, Bool.not_false, true_and, and_true, reduceIte, startE, frz, frz1, wipeE, Option.some.injEq, Sl.sh.injEq, Sl.own.injEq, o_nilT, o_consT, o_par, setD, unB, o_aug, o_augI, o_hN, o_hSub, o_hsNil, o_hsCons, o_hT, o_asgH, o_wrPop, o_dic, o_asT, v_asT_z, v_asT_t, v_asT_i, v_asT_l, o_methR, o_opR, o_ni, fSum]
    exact ⟨l.map fun p : Int × Int => p.2, by rw [List.map_map]; rfl, q⟩

def sp_Row_places : Sps := fun ds Qd _ => ∃ l, ds = [.obj 0 [kD l]] ∧ GoodK l ∧ Qd (.int (placesK l)) false
def r_Row_places (T : Tx) : RS :=
  (sSeq (sRet (dOwn 1 sp_places_of (dPos 1 (dCons (dSl 0 0 (dVar 0)) dNil)))) sNext)
theorem pure_Row_places (T : Tx) : ∀ ds Qd xd, ds.length = 1 → sp_Row_places ds Qd xd → r_Row_places T (kdOf Qd xd) (startE (["self"] : List Str) ds) := by
  rintro _ Qd xd _ ⟨l, rfl, hl, q⟩
  simp only [r_Row_places, o_slot_sh, o_slot_own, o_var, o_c, o_op, o_un, o_nil, o_cons, o_consB, o_star, o_items_l, o_items_t, o_tup, o_lst, o_call, o_if, o_blOf, o_andV, o_orV, o_notV, o_test, o_and, o_or, o_not, o_truth, o_yes, o_chain, o_own, o_pos, o_kw, o_asObj, o_meth, o_cm, o_prop, o_sl, o_nth, o_make, o_tagO_t, o_tagO_f, o_slice, o_no, o_so, o_intOf, o_isi, o_fmt, o_js_nil, o_js_cons, o_m1, o_call1, o_next, o_seq, o_break, o_cont, o_ret, o_retN, o_drop, o_ifS, o_set, o_asg, o_put_p, o_put_f, o_put_b, o_leak_p, o_leak_f, o_leak_b, o_for, o_loop_nil, o_gN, o_gT, o_gL, o_gsNil, o_gsCons, o_any, o_enum, o_range1, o_range2, o_lc, o_lcL_nil, o_rev, o_turn, o_ownIn, o_sWr, o_sPut, o_sNever, o_kd_nx, o_kd_rt, o_kd_ex, o_frOf_p, o_frOf_f, o_frOf_b, List.getElem?_cons_zero, List.getElem?_cons_succ, List.map_cons, List.map_nil, List.cons_append, List.nil_append, List.append_nil, List.length_cons, List.length_nil, List.set_cons_zero, List.set_cons_succ, List.replicate, Nat.sub_self, Nat.zero_add, Nat.reduceAdd, Nat.reduceSub, if_true, if_false, Bool.false_eq_true, Bool.not_true, Bool.not_false, true_and, and_true, reduceIte, startE, frz, frz1, wipeE, Option.some.injEq, Sl.sh.injEq, Sl.own.injEq, o_nilT, o_consT, o_par, setD, unB, o_aug, o_augI, o_hN, o_hSub, o_hsNil, o_hsCons, o_hT, o_asgH, o_wrPop, o_dic, o_asT, v_asT_z, v_asT_t, v_asT_i, v_asT_l, o_methR, o_opR, o_ni, sp_places_of]
  exact ⟨l, rfl, by have := hl.len; omega, q⟩

abbrev sp__law_right : Sps := rightS
theorem lot_good {l : List Int} {m : Int} (hm : m ≤ 10) (h : LotOk m l) : GoodLot l := ⟨h.1, by have := h.2.1; omega, fun z hz => by have := h.2.2 z hz; omega, fun k nd hk => by have := nodup_len nd hk; have := h.2.1; omega⟩
theorem things_ok : ∀ d ∈ things, isB d ∧ okO 0 d ∧ rowQ d none := by
  intro d hd
  simp only [things, List.mem_cons, List.not_mem_nil, or_false] at hd
  rcases hd with rfl | rfl | rfl | rfl | rfl | rfl | rfl | rfl | rfl | rfl | rfl | rfl | rfl | rfl | rfl | rfl | rfl | rfl | rfl | rfl | rfl | rfl | rfl | rfl | rfl | rfl | rfl | rfl | rfl <;> exact ⟨trivial, trivial, rfl⟩
theorem inO_row {a : List (Int × Int)} (ha : ∀ p ∈ a, KindOk p) {Qb : Bool → Prop} (hT : Qb true) : ∀ {rows : List (List (Int × Int))}, a ∈ rows → (∀ b ∈ rows, GoodK b) → inO sp_Row___eq__ (rowD a) Qb (rows.map rowD)
  | b :: rows, hm, hg => by
    refine ⟨hT, b, rowD a, some a, rfl, (hg b (by simp)).ok, ⟨a, rfl, rfl, ha⟩, ?_⟩
    by_cases e : a = b
    · subst e
      have z : decide (some a = some a) = true := by simp
      rw [z]
      exact hT
    · have z : decide (some a = some b) = false := decide_eq_false fun h => e (Option.some.inj h)
      rw [z]
      have hm' : a ∈ rows := (List.mem_cons.mp hm).resolve_left e
      exact inO_row ha hT hm' fun c hc => hg c (List.mem_cons_of_mem _ hc)
theorem rows_obj (rows : List (List (Int × Int))) : rows.map rowD = (rows.map fun a => [kD a]).map (D.obj 0) := by
  rw [List.map_map]; rfl
def r__law_right (T : Tx) : RS :=
  (sSeq (sSet 1 (dOwn 1 sp__law_drawn (dPos 1 (dCons (dVar 0) dNil)))) (sSeq (sSet 2 (dLst (dCons (dMake 0 2 sp_Row___init__ (dPos 1 (dCons (dVar 1) dNil))) (dCons (dCm (T.cl 0) 2 sp_Row_read (dPos 1 (dCons (dOwn 1 sp__law_sheet (dPos 1 (dCons (dVar 1) dNil))) dNil))) dNil)))) (sSeq (sFor (iRange1 (dConsB (dC (.int 5)) dNil)) (gN 3) (sSeq (sWr 2 wApp (dCons (dOwn 2 sp__law_built (dPos 2 (dCons (dVar 0) (dCons (dOwn 2 sp__law_near (dPos 2 (dCons (dVar 0) (dCons (dVar 1) dNil)))) dNil)))) dNil)) sNext)) (sSeq (sSet 4 (dOwn 2 sp__law_lot (dPos 2 (dCons (dVar 0) (dCons (dC (.int 8)) dNil))))) (sSeq (sSet 2 (dOp fAdd (dVar 2) (dLst (dCons (dMake 0 2 sp_Row___init__ (dPos 1 (dCons (dOwn 1 sp__law_of (dPos 1 (dCons (dVar 4) dNil))) dNil))) (dCons (dCm (T.cl 0) 2 sp_Row_listed (dPos 1 (dCons (dCall fTuple (dConsB (dRev (dVar 4)) dNil)) dNil))) dNil))))) (sSeq (sFor (iAny (dVar 2)) (gN 5) (sSeq (sFor (iAny (dVar 2)) (gN 6) (sSeq (sSet 8 (dOp fEq (dProp 0 sp_Row_text (dVar 5)) (dProp 0 sp_Row_text (dVar 6)))) (sSeq (sIf (dTest (dOp fNe (dCall fRepr (dConsB (dLst (dCons (dOpO fEq (spOq 0 (eqS sp_Row___eq__) spNone) (dVar 5) (dVar 6)) (dCons (dOpO fNe (spOq 0 (neS sp_Row___eq__) spNone) (dVar 5) (dVar 6)) dNil))) dNil)) (dCall fRepr (dConsB (dLst (dCons (dVar 8) (dCons (dNotV (dVar 8)) dNil))) dNil)))) (sSeq (sRet (dC (.bl false))) sNext) sNext) sNext))) (sSeq (sFor (iAny (dLst (dCons (dC .non) (dCons (dProp 0 sp_Row_text (dVar 5)) (dCons (dProp 0 sp_Row_kinds (dVar 5)) (dCons (dProp 0 sp_Row_places (dVar 5)) (dCons (dLst (dCons (dProp 0 sp_Row_kinds (dVar 5)) dNil)) (dCons (dOwn 1 sp__law_thing (dPos 1 (dCons (dVar 0) dNil))) (dCons (dTup (dCons (dVar 5) dNil)) (dCons (dLst (dCons (dVar 5) dNil)) dNil)))))))))) (gN 7) (sSeq (sIf (dOr (dTest (dOpO fEq (spOq 0 (eqS sp_Row___eq__) spNone) (dVar 5) (dVar 7))) (dOr (dNot (dTest (dOpO fNe (spOq 0 (neS sp_Row___eq__) spNone) (dVar 5) (dVar 7)))) (dTest (dOpR fEq spNone (spRv 0 (eqS sp_Row___eq__)) (dVar 7) (dVar 5))))) (sSeq (sRet (dC (.bl false))) sNext) sNext) sNext)) (sSeq (sIf (dOr (dTest (dOp fLt (dCall fLen (dConsB (dLc (iAny (dVar 2)) [5] [6] (gN 6) (dTest (dOpO fEq (spOq 0 (eqS sp_Row___eq__) spNone) (dVar 6) (dVar 5))) (dVar 6)) dNil)) (dC (.int 1)))) (dTest (dNI 0 sp_Row___eq__ (dVar 5) (dVar 2)))) (sSeq (sRet (dC (.bl false))) sNext) sNext) sNext)))) (sSeq (sRet (dOp fEq (dCall fRepr (dConsB (dProp 0 sp_Row_kinds (dOp fIxA (dVar 2) (dC (.int 0)))) dNil)) (dCall fRepr (dConsB (dVar 1) dNil)))) sNext)))))))
theorem pure__law_right (T : Tx) : ∀ ds Qd xd, ds.length = 1 → sp__law_right ds Qd xd → r__law_right T (kdOf Qd xd) (startE (["pail", "some", "made", "turn", "lot", "near", "far", "value", "same"] : List Str) ds) := by
  rintro _ Qd xd _ ⟨rfl, q⟩
  have i5 : inR 5 := ⟨by decide, by decide⟩
  have z0 : (0 : Nat) ≤ sizeLine := by decide
  have z1 : (1 : Nat) ≤ sizeLine := by decide
  have z2 : (2 : Nat) ≤ sizeLine := by decide
  have z8 : (8 : Nat) ≤ sizeLine := by decide
  unfold r__law_right
  refine seq_bar fun K1 hK1 => ?_
  try simp only [o_slot_sh, o_slot_own, o_var, o_c, o_op, o_un, o_nil, o_cons, o_consB, o_star, o_items_l, o_items_t, o_tup, o_lst, o_call, o_if, o_blOf, o_andV, o_orV, o_notV, o_test, o_and, o_or, o_not, o_truth, o_yes, o_chain, o_own, o_pos, o_kw, o_asObj, o_meth, o_cm, o_prop, o_sl, o_nth, o_make, o_tagO_t, o_tagO_f, o_slice, o_no, o_so, o_intOf, o_isi, o_fmt, o_js_nil, o_js_cons, o_m1, o_call1, o_next, o_seq, o_break, o_cont, o_ret, o_retN, o_drop, o_ifS, o_set, o_asg, o_put_p, o_put_f, o_put_b, o_leak_p, o_leak_f, o_leak_b, o_for, o_loop_nil, o_gN, o_gT, o_gL, o_gsNil, o_gsCons, o_any, o_enum, o_range1, o_range2, o_lc, o_lcL_nil, o_rev, o_turn, o_ownIn, o_sWr, o_sPut, o_sNever, o_kd_nx, o_kd_rt, o_kd_ex, o_frOf_p, o_frOf_f, o_frOf_b, List.getElem?_cons_zero, List.getElem?_cons_succ, List.map_cons, List.map_nil, List.cons_append, List.nil_append, List.append_nil, List.length_cons, List.length_nil, List.set_cons_zero, List.set_cons_succ, List.replicate, Nat.sub_self, Nat.zero_add, Nat.reduceAdd, Nat.reduceSub, if_true, if_false, Bool.false_eq_true, Bool.not_true, Bool.not_false, true_and, and_true, reduceIte, startE, frz, frz1, wipeE, Option.some.injEq, Sl.sh.injEq, Sl.own.injEq, o_nilT, o_consT, o_par, setD, unB, o_aug, o_augI, o_hN, o_hSub, o_hsNil, o_hsCons, o_hT, o_asgH, o_wrPop, o_dic, o_asT, v_asT_z, v_asT_t, v_asT_i, v_asT_l, o_methR, o_opR, o_ni]
  refine ⟨rfl, fun l hl => ?_⟩
  try simp only [o_slot_sh, o_slot_own, o_var, o_c, o_op, o_un, o_nil, o_cons, o_consB, o_star, o_items_l, o_items_t, o_tup, o_lst, o_call, o_if, o_blOf, o_andV, o_orV, o_notV, o_test, o_and, o_or, o_not, o_truth, o_yes, o_chain, o_own, o_pos, o_kw, o_asObj, o_meth, o_cm, o_prop, o_sl, o_nth, o_make, o_tagO_t, o_tagO_f, o_slice, o_no, o_so, o_intOf, o_isi, o_fmt, o_js_nil, o_js_cons, o_m1, o_call1, o_next, o_seq, o_break, o_cont, o_ret, o_retN, o_drop, o_ifS, o_set, o_asg, o_put_p, o_put_f, o_put_b, o_leak_p, o_leak_f, o_leak_b, o_for, o_loop_nil, o_gN, o_gT, o_gL, o_gsNil, o_gsCons, o_any, o_enum, o_range1, o_range2, o_lc, o_lcL_nil, o_rev, o_turn, o_ownIn, o_sWr, o_sPut, o_sNever, o_kd_nx, o_kd_rt, o_kd_ex, o_frOf_p, o_frOf_f, o_frOf_b, List.getElem?_cons_zero, List.getElem?_cons_succ, List.map_cons, List.map_nil, List.cons_append, List.nil_append, List.append_nil, List.length_cons, List.length_nil, List.set_cons_zero, List.set_cons_succ, List.replicate, Nat.sub_self, Nat.zero_add, Nat.reduceAdd, Nat.reduceSub, if_true, if_false, Bool.false_eq_true, Bool.not_true, Bool.not_false, true_and, and_true, reduceIte, startE, frz, frz1, wipeE, Option.some.injEq, Sl.sh.injEq, Sl.own.injEq, o_nilT, o_consT, o_par, setD, unB, o_aug, o_augI, o_hN, o_hSub, o_hsNil, o_hsCons, o_hT, o_asgH, o_wrPop, o_dic, o_asT, v_asT_z, v_asT_t, v_asT_i, v_asT_l, o_methR, o_opR, o_ni]
  refine hK1 _ (seq_bar fun K2 hK2 => ?_)
  try simp only [o_slot_sh, o_slot_own, o_var, o_c, o_op, o_un, o_nil, o_cons, o_consB, o_star, o_items_l, o_items_t, o_tup, o_lst, o_call, o_if, o_blOf, o_andV, o_orV, o_notV, o_test, o_and, o_or, o_not, o_truth, o_yes, o_chain, o_own, o_pos, o_kw, o_asObj, o_meth, o_cm, o_prop, o_sl, o_nth, o_make, o_tagO_t, o_tagO_f, o_slice, o_no, o_so, o_intOf, o_isi, o_fmt, o_js_nil, o_js_cons, o_m1, o_call1, o_next, o_seq, o_break, o_cont, o_ret, o_retN, o_drop, o_ifS, o_set, o_asg, o_put_p, o_put_f, o_put_b, o_leak_p, o_leak_f, o_leak_b, o_for, o_loop_nil, o_gN, o_gT, o_gL, o_gsNil, o_gsCons, o_any, o_enum, o_range1, o_range2, o_lc, o_lcL_nil, o_rev, o_turn, o_ownIn, o_sWr, o_sPut, o_sNever, o_kd_nx, o_kd_rt, o_kd_ex, o_frOf_p, o_frOf_f, o_frOf_b, List.getElem?_cons_zero, List.getElem?_cons_succ, List.map_cons, List.map_nil, List.cons_append, List.nil_append, List.append_nil, List.length_cons, List.length_nil, List.set_cons_zero, List.set_cons_succ, List.replicate, Nat.sub_self, Nat.zero_add, Nat.reduceAdd, Nat.reduceSub, if_true, if_false, Bool.false_eq_true, Bool.not_true, Bool.not_false, true_and, and_true, reduceIte, startE, frz, frz1, wipeE, Option.some.injEq, Sl.sh.injEq, Sl.own.injEq, o_nilT, o_consT, o_par, setD, unB, o_aug, o_augI, o_hN, o_hSub, o_hsNil, o_hsCons, o_hT, o_asgH, o_wrPop, o_dic, o_asT, v_asT_z, v_asT_t, v_asT_i, v_asT_l, o_methR, o_opR, o_ni]
  repeat refine ⟨rfl, ?_⟩
  refine ⟨l, rfl, hl, ?_⟩
  try simp only [o_slot_sh, o_slot_own, o_var, o_c, o_op, o_un, o_nil, o_cons, o_consB, o_star, o_items_l, o_items_t, o_tup, o_lst, o_call, o_if, o_blOf, o_andV, o_orV, o_notV, o_test, o_and, o_or, o_not, o_truth, o_yes, o_chain, o_own, o_pos, o_kw, o_asObj, o_meth, o_cm, o_prop, o_sl, o_nth, o_make, o_tagO_t, o_tagO_f, o_slice, o_no, o_so, o_intOf, o_isi, o_fmt, o_js_nil, o_js_cons, o_m1, o_call1, o_next, o_seq, o_break, o_cont, o_ret, o_retN, o_drop, o_ifS, o_set, o_asg, o_put_p, o_put_f, o_put_b, o_leak_p, o_leak_f, o_leak_b, o_for, o_loop_nil, o_gN, o_gT, o_gL, o_gsNil, o_gsCons, o_any, o_enum, o_range1, o_range2, o_lc, o_lcL_nil, o_rev, o_turn, o_ownIn, o_sWr, o_sPut, o_sNever, o_kd_nx, o_kd_rt, o_kd_ex, o_frOf_p, o_frOf_f, o_frOf_b, List.getElem?_cons_zero, List.getElem?_cons_succ, List.map_cons, List.map_nil, List.cons_append, List.nil_append, List.append_nil, List.length_cons, List.length_nil, List.set_cons_zero, List.set_cons_succ, List.replicate, Nat.sub_self, Nat.zero_add, Nat.reduceAdd, Nat.reduceSub, if_true, if_false, Bool.false_eq_true, Bool.not_true, Bool.not_false, true_and, and_true, reduceIte, startE, frz, frz1, wipeE, Option.some.injEq, Sl.sh.injEq, Sl.own.injEq, o_nilT, o_consT, o_par, setD, unB, o_aug, o_augI, o_hN, o_hSub, o_hsNil, o_hsCons, o_hT, o_asgH, o_wrPop, o_dic, o_asT, v_asT_z, v_asT_t, v_asT_i, v_asT_l, o_methR, o_opR, o_ni]
  repeat refine ⟨rfl, ?_⟩
  refine ⟨l, rfl, hl, ?_⟩
  try simp only [o_slot_sh, o_slot_own, o_var, o_c, o_op, o_un, o_nil, o_cons, o_consB, o_star, o_items_l, o_items_t, o_tup, o_lst, o_call, o_if, o_blOf, o_andV, o_orV, o_notV, o_test, o_and, o_or, o_not, o_truth, o_yes, o_chain, o_own, o_pos, o_kw, o_asObj, o_meth, o_cm, o_prop, o_sl, o_nth, o_make, o_tagO_t, o_tagO_f, o_slice, o_no, o_so, o_intOf, o_isi, o_fmt, o_js_nil, o_js_cons, o_m1, o_call1, o_next, o_seq, o_break, o_cont, o_ret, o_retN, o_drop, o_ifS, o_set, o_asg, o_put_p, o_put_f, o_put_b, o_leak_p, o_leak_f, o_leak_b, o_for, o_loop_nil, o_gN, o_gT, o_gL, o_gsNil, o_gsCons, o_any, o_enum, o_range1, o_range2, o_lc, o_lcL_nil, o_rev, o_turn, o_ownIn, o_sWr, o_sPut, o_sNever, o_kd_nx, o_kd_rt, o_kd_ex, o_frOf_p, o_frOf_f, o_frOf_b, List.getElem?_cons_zero, List.getElem?_cons_succ, List.map_cons, List.map_nil, List.cons_append, List.nil_append, List.append_nil, List.length_cons, List.length_nil, List.set_cons_zero, List.set_cons_succ, List.replicate, Nat.sub_self, Nat.zero_add, Nat.reduceAdd, Nat.reduceSub, if_true, if_false, Bool.false_eq_true, Bool.not_true, Bool.not_false, true_and, and_true, reduceIte, startE, frz, frz1, wipeE, Option.some.injEq, Sl.sh.injEq, Sl.own.injEq, o_nilT, o_consT, o_par, setD, unB, o_aug, o_augI, o_hN, o_hSub, o_hsNil, o_hsCons, o_hT, o_asgH, o_wrPop, o_dic, o_asT, v_asT_z, v_asT_t, v_asT_i, v_asT_l, o_methR, o_opR, o_ni]
  repeat refine ⟨rfl, ?_⟩
  refine ⟨_, l, rfl, hl, ?_⟩
  try simp only [o_slot_sh, o_slot_own, o_var, o_c, o_op, o_un, o_nil, o_cons, o_consB, o_star, o_items_l, o_items_t, o_tup, o_lst, o_call, o_if, o_blOf, o_andV, o_orV, o_notV, o_test, o_and, o_or, o_not, o_truth, o_yes, o_chain, o_own, o_pos, o_kw, o_asObj, o_meth, o_cm, o_prop, o_sl, o_nth, o_make, o_tagO_t, o_tagO_f, o_slice, o_no, o_so, o_intOf, o_isi, o_fmt, o_js_nil, o_js_cons, o_m1, o_call1, o_next, o_seq, o_break, o_cont, o_ret, o_retN, o_drop, o_ifS, o_set, o_asg, o_put_p, o_put_f, o_put_b, o_leak_p, o_leak_f, o_leak_b, o_for, o_loop_nil, o_gN, o_gT, o_gL, o_gsNil, o_gsCons, o_any, o_enum, o_range1, o_range2, o_lc, o_lcL_nil, o_rev, o_turn, o_ownIn, o_sWr, o_sPut, o_sNever, o_kd_nx, o_kd_rt, o_kd_ex, o_frOf_p, o_frOf_f, o_frOf_b, List.getElem?_cons_zero, List.getElem?_cons_succ, List.map_cons, List.map_nil, List.cons_append, List.nil_append, List.append_nil, List.length_cons, List.length_nil, List.set_cons_zero, List.set_cons_succ, List.replicate, Nat.sub_self, Nat.zero_add, Nat.reduceAdd, Nat.reduceSub, if_true, if_false, Bool.false_eq_true, Bool.not_true, Bool.not_false, true_and, and_true, reduceIte, startE, frz, frz1, wipeE, Option.some.injEq, Sl.sh.injEq, Sl.own.injEq, o_nilT, o_consT, o_par, setD, unB, o_aug, o_augI, o_hN, o_hSub, o_hsNil, o_hsCons, o_hT, o_asgH, o_wrPop, o_dic, o_asT, v_asT_z, v_asT_t, v_asT_i, v_asT_l, o_methR, o_opR, o_ni, z2]
  refine hK2 _ (seq_bar fun K3 hK3 => ?_)
  try simp only [o_slot_sh, o_slot_own, o_var, o_c, o_op, o_un, o_nil, o_cons, o_consB, o_star, o_items_l, o_items_t, o_tup, o_lst, o_call, o_if, o_blOf, o_andV, o_orV, o_notV, o_test, o_and, o_or, o_not, o_truth, o_yes, o_chain, o_own, o_pos, o_kw, o_asObj, o_meth, o_cm, o_prop, o_sl, o_nth, o_make, o_tagO_t, o_tagO_f, o_slice, o_no, o_so, o_intOf, o_isi, o_fmt, o_js_nil, o_js_cons, o_m1, o_call1, o_next, o_seq, o_break, o_cont, o_ret, o_retN, o_drop, o_ifS, o_set, o_asg, o_put_p, o_put_f, o_put_b, o_leak_p, o_leak_f, o_leak_b, o_for, o_loop_nil, o_gN, o_gT, o_gL, o_gsNil, o_gsCons, o_any, o_enum, o_range1, o_range2, o_lc, o_lcL_nil, o_rev, o_turn, o_ownIn, o_sWr, o_sPut, o_sNever, o_kd_nx, o_kd_rt, o_kd_ex, o_frOf_p, o_frOf_f, o_frOf_b, List.getElem?_cons_zero, List.getElem?_cons_succ, List.map_cons, List.map_nil, List.cons_append, List.nil_append, List.append_nil, List.length_cons, List.length_nil, List.set_cons_zero, List.set_cons_succ, List.replicate, Nat.sub_self, Nat.zero_add, Nat.reduceAdd, Nat.reduceSub, if_true, if_false, Bool.false_eq_true, Bool.not_true, Bool.not_false, true_and, and_true, reduceIte, startE, frz, frz1, wipeE, Option.some.injEq, Sl.sh.injEq, Sl.own.injEq, o_nilT, o_consT, o_par, setD, unB, o_aug, o_augI, o_hN, o_hSub, o_hsNil, o_hsCons, o_hT, o_asgH, o_wrPop, o_dic, o_asT, v_asT_z, v_asT_t, v_asT_i, v_asT_l, o_methR, o_opR, o_ni, i5]
  refine loop_inv (fun i ρ => ∃ (rows : List (List (Int × Int))) (s3 : Sl), ρ = [.sh .ptr, .sh (kD l), .own (.lst (rows.map rowD)), s3, .no, .no, .no, .no, .no] ∧ (∀ a ∈ rows, GoodK a) ∧ rows.length ≤ i + 2 ∧ rows[0]? = some l) (n := 0) ⟨[l, l], .no, rfl, fun a ha => by
    simp only [List.mem_cons, List.not_mem_nil, or_false] at ha
    rcases ha with rfl | rfl <;> exact hl, by simp, rfl⟩ (fun d hd i ρ K hi h next => ?_) (fun ρ h => ?_)
  · obtain ⟨rows, s3, rfl, hg, hlen, h0⟩ := h
    rw [ups_len] at hi
    have hz : (rows.map rowD).length < sizeLine := Nat.lt_of_le_of_lt (by rw [List.length_map]; omega : (rows.map rowD).length ≤ 1000000) (by decide)
    try simp only [o_slot_sh, o_slot_own, o_var, o_c, o_op, o_un, o_nil, o_cons, o_consB, o_star, o_items_l, o_items_t, o_tup, o_lst, o_call, o_if, o_blOf, o_andV, o_orV, o_notV, o_test, o_and, o_or, o_not, o_truth, o_yes, o_chain, o_own, o_pos, o_kw, o_asObj, o_meth, o_cm, o_prop, o_sl, o_nth, o_make, o_tagO_t, o_tagO_f, o_slice, o_no, o_so, o_intOf, o_isi, o_fmt, o_js_nil, o_js_cons, o_m1, o_call1, o_next, o_seq, o_break, o_cont, o_ret, o_retN, o_drop, o_ifS, o_set, o_asg, o_put_p, o_put_f, o_put_b, o_leak_p, o_leak_f, o_leak_b, o_for, o_loop_nil, o_gN, o_gT, o_gL, o_gsNil, o_gsCons, o_any, o_enum, o_range1, o_range2, o_lc, o_lcL_nil, o_rev, o_turn, o_ownIn, o_sWr, o_sPut, o_sNever, o_kd_nx, o_kd_rt, o_kd_ex, o_frOf_p, o_frOf_f, o_frOf_b, List.getElem?_cons_zero, List.getElem?_cons_succ, List.map_cons, List.map_nil, List.cons_append, List.nil_append, List.append_nil, List.length_cons, List.length_nil, List.set_cons_zero, List.set_cons_succ, List.replicate, Nat.sub_self, Nat.zero_add, Nat.reduceAdd, Nat.reduceSub, if_true, if_false, Bool.false_eq_true, Bool.not_true, Bool.not_false, true_and, and_true, reduceIte, startE, frz, frz1, wipeE, Option.some.injEq, Sl.sh.injEq, Sl.own.injEq, o_nilT, o_consT, o_par, setD, unB, o_aug, o_augI, o_hN, o_hSub, o_hsNil, o_hsCons, o_hT, o_asgH, o_wrPop, o_dic, o_asT, v_asT_z, v_asT_t, v_asT_i, v_asT_l, o_methR, o_opR, o_ni, Nat.reduceLT, Nat.lt_add_one, ownIn, isLst]
    repeat refine ⟨rfl, ?_⟩
    refine ⟨l, rfl, hl, fun m hm => ?_⟩
    try simp only [o_slot_sh, o_slot_own, o_var, o_c, o_op, o_un, o_nil, o_cons, o_consB, o_star, o_items_l, o_items_t, o_tup, o_lst, o_call, o_if, o_blOf, o_andV, o_orV, o_notV, o_test, o_and, o_or, o_not, o_truth, o_yes, o_chain, o_own, o_pos, o_kw, o_asObj, o_meth, o_cm, o_prop, o_sl, o_nth, o_make, o_tagO_t, o_tagO_f, o_slice, o_no, o_so, o_intOf, o_isi, o_fmt, o_js_nil, o_js_cons, o_m1, o_call1, o_next, o_seq, o_break, o_cont, o_ret, o_retN, o_drop, o_ifS, o_set, o_asg, o_put_p, o_put_f, o_put_b, o_leak_p, o_leak_f, o_leak_b, o_for, o_loop_nil, o_gN, o_gT, o_gL, o_gsNil, o_gsCons, o_any, o_enum, o_range1, o_range2, o_lc, o_lcL_nil, o_rev, o_turn, o_ownIn, o_sWr, o_sPut, o_sNever, o_kd_nx, o_kd_rt, o_kd_ex, o_frOf_p, o_frOf_f, o_frOf_b, List.getElem?_cons_zero, List.getElem?_cons_succ, List.map_cons, List.map_nil, List.cons_append, List.nil_append, List.append_nil, List.length_cons, List.length_nil, List.set_cons_zero, List.set_cons_succ, List.replicate, Nat.sub_self, Nat.zero_add, Nat.reduceAdd, Nat.reduceSub, if_true, if_false, Bool.false_eq_true, Bool.not_true, Bool.not_false, true_and, and_true, reduceIte, startE, frz, frz1, wipeE, Option.some.injEq, Sl.sh.injEq, Sl.own.injEq, o_nilT, o_consT, o_par, setD, unB, o_aug, o_augI, o_hN, o_hSub, o_hsNil, o_hsCons, o_hT, o_asgH, o_wrPop, o_dic, o_asT, v_asT_z, v_asT_t, v_asT_i, v_asT_l, o_methR, o_opR, o_ni]
    repeat refine ⟨rfl, ?_⟩
    refine ⟨m, rfl, hm, ?_⟩
    try simp only [o_slot_sh, o_slot_own, o_var, o_c, o_op, o_un, o_nil, o_cons, o_consB, o_star, o_items_l, o_items_t, o_tup, o_lst, o_call, o_if, o_blOf, o_andV, o_orV, o_notV, o_test, o_and, o_or, o_not, o_truth, o_yes, o_chain, o_own, o_pos, o_kw, o_asObj, o_meth, o_cm, o_prop, o_sl, o_nth, o_make, o_tagO_t, o_tagO_f, o_slice, o_no, o_so, o_intOf, o_isi, o_fmt, o_js_nil, o_js_cons, o_m1, o_call1, o_next, o_seq, o_break, o_cont, o_ret, o_retN, o_drop, o_ifS, o_set, o_asg, o_put_p, o_put_f, o_put_b, o_leak_p, o_leak_f, o_leak_b, o_for, o_loop_nil, o_gN, o_gT, o_gL, o_gsNil, o_gsCons, o_any, o_enum, o_range1, o_range2, o_lc, o_lcL_nil, o_rev, o_turn, o_ownIn, o_sWr, o_sPut, o_sNever, o_kd_nx, o_kd_rt, o_kd_ex, o_frOf_p, o_frOf_f, o_frOf_b, List.getElem?_cons_zero, List.getElem?_cons_succ, List.map_cons, List.map_nil, List.cons_append, List.nil_append, List.append_nil, List.length_cons, List.length_nil, List.set_cons_zero, List.set_cons_succ, List.replicate, Nat.sub_self, Nat.zero_add, Nat.reduceAdd, Nat.reduceSub, if_true, if_false, Bool.false_eq_true, Bool.not_true, Bool.not_false, true_and, and_true, reduceIte, startE, frz, frz1, wipeE, Option.some.injEq, Sl.sh.injEq, Sl.own.injEq, o_nilT, o_consT, o_par, setD, unB, o_aug, o_augI, o_hN, o_hSub, o_hsNil, o_hsCons, o_hT, o_asgH, o_wrPop, o_dic, o_asT, v_asT_z, v_asT_t, v_asT_i, v_asT_l, o_methR, o_opR, o_ni, ownIn, wApp, hz]
    exact next _ ⟨rows ++ [m], _, by rw [List.map_append]; rfl, fun a ha => by
      rcases List.mem_append.mp ha with ha | ha
      · exact hg a ha
      · rw [List.mem_singleton.mp ha]; exact hm, by rw [List.length_append]; simp only [List.length_cons, List.length_nil]; omega, by
      cases rows with
      | nil => cases h0
      | cons a b => exact h0⟩
  · obtain ⟨rows, s3, rfl, hg, hlen, h0⟩ := h
    rw [ups_len] at hlen
    have hlen : rows.length ≤ 10 := Nat.le_trans hlen (by decide)
    refine hK3 _ (seq_bar fun K4 hK4 => ?_)
    try simp only [o_slot_sh, o_slot_own, o_var, o_c, o_op, o_un, o_nil, o_cons, o_consB, o_star, o_items_l, o_items_t, o_tup, o_lst, o_call, o_if, o_blOf, o_andV, o_orV, o_notV, o_test, o_and, o_or, o_not, o_truth, o_yes, o_chain, o_own, o_pos, o_kw, o_asObj, o_meth, o_cm, o_prop, o_sl, o_nth, o_make, o_tagO_t, o_tagO_f, o_slice, o_no, o_so, o_intOf, o_isi, o_fmt, o_js_nil, o_js_cons, o_m1, o_call1, o_next, o_seq, o_break, o_cont, o_ret, o_retN, o_drop, o_ifS, o_set, o_asg, o_put_p, o_put_f, o_put_b, o_leak_p, o_leak_f, o_leak_b, o_for, o_loop_nil, o_gN, o_gT, o_gL, o_gsNil, o_gsCons, o_any, o_enum, o_range1, o_range2, o_lc, o_lcL_nil, o_rev, o_turn, o_ownIn, o_sWr, o_sPut, o_sNever, o_kd_nx, o_kd_rt, o_kd_ex, o_frOf_p, o_frOf_f, o_frOf_b, List.getElem?_cons_zero, List.getElem?_cons_succ, List.map_cons, List.map_nil, List.cons_append, List.nil_append, List.append_nil, List.length_cons, List.length_nil, List.set_cons_zero, List.set_cons_succ, List.replicate, Nat.sub_self, Nat.zero_add, Nat.reduceAdd, Nat.reduceSub, if_true, if_false, Bool.false_eq_true, Bool.not_true, Bool.not_false, true_and, and_true, reduceIte, startE, frz, frz1, wipeE, Option.some.injEq, Sl.sh.injEq, Sl.own.injEq, o_nilT, o_consT, o_par, setD, unB, o_aug, o_augI, o_hN, o_hSub, o_hsNil, o_hsCons, o_hT, o_asgH, o_wrPop, o_dic, o_asT, v_asT_z, v_asT_t, v_asT_i, v_asT_l, o_methR, o_opR, o_ni]
    repeat refine ⟨rfl, ?_⟩
    refine ⟨8, rfl, by decide, by decide, fun lot hlot => ?_⟩
    have gl := lot_good (by decide) hlot
    have gr : GoodLot lot.reverse := gl.perm (List.reverse_perm lot)
    try simp only [o_slot_sh, o_slot_own, o_var, o_c, o_op, o_un, o_nil, o_cons, o_consB, o_star, o_items_l, o_items_t, o_tup, o_lst, o_call, o_if, o_blOf, o_andV, o_orV, o_notV, o_test, o_and, o_or, o_not, o_truth, o_yes, o_chain, o_own, o_pos, o_kw, o_asObj, o_meth, o_cm, o_prop, o_sl, o_nth, o_make, o_tagO_t, o_tagO_f, o_slice, o_no, o_so, o_intOf, o_isi, o_fmt, o_js_nil, o_js_cons, o_m1, o_call1, o_next, o_seq, o_break, o_cont, o_ret, o_retN, o_drop, o_ifS, o_set, o_asg, o_put_p, o_put_f, o_put_b, o_leak_p, o_leak_f, o_leak_b, o_for, o_loop_nil, o_gN, o_gT, o_gL, o_gsNil, o_gsCons, o_any, o_enum, o_range1, o_range2, o_lc, o_lcL_nil, o_rev, o_turn, o_ownIn, o_sWr, o_sPut, o_sNever, o_kd_nx, o_kd_rt, o_kd_ex, o_frOf_p, o_frOf_f, o_frOf_b, List.getElem?_cons_zero, List.getElem?_cons_succ, List.map_cons, List.map_nil, List.cons_append, List.nil_append, List.append_nil, List.length_cons, List.length_nil, List.set_cons_zero, List.set_cons_succ, List.replicate, Nat.sub_self, Nat.zero_add, Nat.reduceAdd, Nat.reduceSub, if_true, if_false, Bool.false_eq_true, Bool.not_true, Bool.not_false, true_and, and_true, reduceIte, startE, frz, frz1, wipeE, Option.some.injEq, Sl.sh.injEq, Sl.own.injEq, o_nilT, o_consT, o_par, setD, unB, o_aug, o_augI, o_hN, o_hSub, o_hsNil, o_hsCons, o_hT, o_asgH, o_wrPop, o_dic, o_asT, v_asT_z, v_asT_t, v_asT_i, v_asT_l, o_methR, o_opR, o_ni]
    refine hK4 _ (seq_bar fun K5 hK5 => ?_)
    try simp only [o_slot_sh, o_slot_own, o_var, o_c, o_op, o_un, o_nil, o_cons, o_consB, o_star, o_items_l, o_items_t, o_tup, o_lst, o_call, o_if, o_blOf, o_andV, o_orV, o_notV, o_test, o_and, o_or, o_not, o_truth, o_yes, o_chain, o_own, o_pos, o_kw, o_asObj, o_meth, o_cm, o_prop, o_sl, o_nth, o_make, o_tagO_t, o_tagO_f, o_slice, o_no, o_so, o_intOf, o_isi, o_fmt, o_js_nil, o_js_cons, o_m1, o_call1, o_next, o_seq, o_break, o_cont, o_ret, o_retN, o_drop, o_ifS, o_set, o_asg, o_put_p, o_put_f, o_put_b, o_leak_p, o_leak_f, o_leak_b, o_for, o_loop_nil, o_gN, o_gT, o_gL, o_gsNil, o_gsCons, o_any, o_enum, o_range1, o_range2, o_lc, o_lcL_nil, o_rev, o_turn, o_ownIn, o_sWr, o_sPut, o_sNever, o_kd_nx, o_kd_rt, o_kd_ex, o_frOf_p, o_frOf_f, o_frOf_b, List.getElem?_cons_zero, List.getElem?_cons_succ, List.map_cons, List.map_nil, List.cons_append, List.nil_append, List.append_nil, List.length_cons, List.length_nil, List.set_cons_zero, List.set_cons_succ, List.replicate, Nat.sub_self, Nat.zero_add, Nat.reduceAdd, Nat.reduceSub, if_true, if_false, Bool.false_eq_true, Bool.not_true, Bool.not_false, true_and, and_true, reduceIte, startE, frz, frz1, wipeE, Option.some.injEq, Sl.sh.injEq, Sl.own.injEq, o_nilT, o_consT, o_par, setD, unB, o_aug, o_augI, o_hN, o_hSub, o_hsNil, o_hsCons, o_hT, o_asgH, o_wrPop, o_dic, o_asT, v_asT_z, v_asT_t, v_asT_i, v_asT_l, o_methR, o_opR, o_ni]
    repeat refine ⟨rfl, ?_⟩
    refine ⟨lot, .inl rfl, by have := gl.len; omega, ?_⟩
    try simp only [o_slot_sh, o_slot_own, o_var, o_c, o_op, o_un, o_nil, o_cons, o_consB, o_star, o_items_l, o_items_t, o_tup, o_lst, o_call, o_if, o_blOf, o_andV, o_orV, o_notV, o_test, o_and, o_or, o_not, o_truth, o_yes, o_chain, o_own, o_pos, o_kw, o_asObj, o_meth, o_cm, o_prop, o_sl, o_nth, o_make, o_tagO_t, o_tagO_f, o_slice, o_no, o_so, o_intOf, o_isi, o_fmt, o_js_nil, o_js_cons, o_m1, o_call1, o_next, o_seq, o_break, o_cont, o_ret, o_retN, o_drop, o_ifS, o_set, o_asg, o_put_p, o_put_f, o_put_b, o_leak_p, o_leak_f, o_leak_b, o_for, o_loop_nil, o_gN, o_gT, o_gL, o_gsNil, o_gsCons, o_any, o_enum, o_range1, o_range2, o_lc, o_lcL_nil, o_rev, o_turn, o_ownIn, o_sWr, o_sPut, o_sNever, o_kd_nx, o_kd_rt, o_kd_ex, o_frOf_p, o_frOf_f, o_frOf_b, List.getElem?_cons_zero, List.getElem?_cons_succ, List.map_cons, List.map_nil, List.cons_append, List.nil_append, List.append_nil, List.length_cons, List.length_nil, List.set_cons_zero, List.set_cons_succ, List.replicate, Nat.sub_self, Nat.zero_add, Nat.reduceAdd, Nat.reduceSub, if_true, if_false, Bool.false_eq_true, Bool.not_true, Bool.not_false, true_and, and_true, reduceIte, startE, frz, frz1, wipeE, Option.some.injEq, Sl.sh.injEq, Sl.own.injEq, o_nilT, o_consT, o_par, setD, unB, o_aug, o_augI, o_hN, o_hSub, o_hsNil, o_hsCons, o_hT, o_asgH, o_wrPop, o_dic, o_asT, v_asT_z, v_asT_t, v_asT_i, v_asT_l, o_methR, o_opR, o_ni]
    repeat refine ⟨rfl, ?_⟩
    refine ⟨_, rfl, tidy_ones gl, ?_⟩
    have hz : rows.length + 2 ≤ sizeLine := small_line (by omega)
    try simp only [o_slot_sh, o_slot_own, o_var, o_c, o_op, o_un, o_nil, o_cons, o_consB, o_star, o_items_l, o_items_t, o_tup, o_lst, o_call, o_if, o_blOf, o_andV, o_orV, o_notV, o_test, o_and, o_or, o_not, o_truth, o_yes, o_chain, o_own, o_pos, o_kw, o_asObj, o_meth, o_cm, o_prop, o_sl, o_nth, o_make, o_tagO_t, o_tagO_f, o_slice, o_no, o_so, o_intOf, o_isi, o_fmt, o_js_nil, o_js_cons, o_m1, o_call1, o_next, o_seq, o_break, o_cont, o_ret, o_retN, o_drop, o_ifS, o_set, o_asg, o_put_p, o_put_f, o_put_b, o_leak_p, o_leak_f, o_leak_b, o_for, o_loop_nil, o_gN, o_gT, o_gL, o_gsNil, o_gsCons, o_any, o_enum, o_range1, o_range2, o_lc, o_lcL_nil, o_rev, o_turn, o_ownIn, o_sWr, o_sPut, o_sNever, o_kd_nx, o_kd_rt, o_kd_ex, o_frOf_p, o_frOf_f, o_frOf_b, List.getElem?_cons_zero, List.getElem?_cons_succ, List.map_cons, List.map_nil, List.cons_append, List.nil_append, List.append_nil, List.length_cons, List.length_nil, List.set_cons_zero, List.set_cons_succ, List.replicate, Nat.sub_self, Nat.zero_add, Nat.reduceAdd, Nat.reduceSub, if_true, if_false, Bool.false_eq_true, Bool.not_true, Bool.not_false, true_and, and_true, reduceIte, startE, frz, frz1, wipeE, Option.some.injEq, Sl.sh.injEq, Sl.own.injEq, o_nilT, o_consT, o_par, setD, unB, o_aug, o_augI, o_hN, o_hSub, o_hsNil, o_hsCons, o_hT, o_asgH, o_wrPop, o_dic, o_asT, v_asT_z, v_asT_t, v_asT_i, v_asT_l, o_methR, o_opR, o_ni, ← List.map_reverse, v_tupl]
    repeat refine ⟨rfl, ?_⟩
    refine ⟨_, lot.reverse, rfl, gr, ?_⟩
    try simp only [o_slot_sh, o_slot_own, o_var, o_c, o_op, o_un, o_nil, o_cons, o_consB, o_star, o_items_l, o_items_t, o_tup, o_lst, o_call, o_if, o_blOf, o_andV, o_orV, o_notV, o_test, o_and, o_or, o_not, o_truth, o_yes, o_chain, o_own, o_pos, o_kw, o_asObj, o_meth, o_cm, o_prop, o_sl, o_nth, o_make, o_tagO_t, o_tagO_f, o_slice, o_no, o_so, o_intOf, o_isi, o_fmt, o_js_nil, o_js_cons, o_m1, o_call1, o_next, o_seq, o_break, o_cont, o_ret, o_retN, o_drop, o_ifS, o_set, o_asg, o_put_p, o_put_f, o_put_b, o_leak_p, o_leak_f, o_leak_b, o_for, o_loop_nil, o_gN, o_gT, o_gL, o_gsNil, o_gsCons, o_any, o_enum, o_range1, o_range2, o_lc, o_lcL_nil, o_rev, o_turn, o_ownIn, o_sWr, o_sPut, o_sNever, o_kd_nx, o_kd_rt, o_kd_ex, o_frOf_p, o_frOf_f, o_frOf_b, List.getElem?_cons_zero, List.getElem?_cons_succ, List.map_cons, List.map_nil, List.cons_append, List.nil_append, List.append_nil, List.length_cons, List.length_nil, List.set_cons_zero, List.set_cons_succ, List.replicate, Nat.sub_self, Nat.zero_add, Nat.reduceAdd, Nat.reduceSub, if_true, if_false, Bool.false_eq_true, Bool.not_true, Bool.not_false, true_and, and_true, reduceIte, startE, frz, frz1, wipeE, Option.some.injEq, Sl.sh.injEq, Sl.own.injEq, o_nilT, o_consT, o_par, setD, unB, o_aug, o_augI, o_hN, o_hSub, o_hsNil, o_hsCons, o_hT, o_asgH, o_wrPop, o_dic, o_asT, v_asT_z, v_asT_t, v_asT_i, v_asT_l, o_methR, o_opR, o_ni, z2, fAdd, List.length_map, hz]
    obtain ⟨made, hmade, hgm, hml, hm0⟩ : ∃ made : List (List (Int × Int)), rows.map rowD ++ [D.obj 0 [kD (tidyL (onesP lot))], D.obj 0 [kD (tidyL (onesP lot.reverse))]] = made.map rowD ∧ (∀ a ∈ made, GoodK a) ∧ made.length ≤ 12 ∧ made[0]? = some l := by
      refine ⟨rows ++ [tidyL (onesP lot), tidyL (onesP lot.reverse)], by rw [List.map_append]; rfl, fun a ha => ?_, by rw [List.length_append]; simp only [List.length_cons, List.length_nil]; omega, ?_⟩
      · rcases List.mem_append.mp ha with ha | ha
        · exact hg a ha
        · simp only [List.mem_cons, List.not_mem_nil, or_false] at ha
          rcases ha with rfl | rfl
          · exact tidy_ones gl
          · exact tidy_ones gr
      · cases rows with
        | nil => cases h0
        | cons a b => exact h0
    rw [hmade]
    refine hK5 _ (seq_bar fun K6 hK6 => ?_)
    try simp only [o_slot_sh, o_slot_own, o_var, o_c, o_op, o_un, o_nil, o_cons, o_consB, o_star, o_items_l, o_items_t, o_tup, o_lst, o_call, o_if, o_blOf, o_andV, o_orV, o_notV, o_test, o_and, o_or, o_not, o_truth, o_yes, o_chain, o_own, o_pos, o_kw, o_asObj, o_meth, o_cm, o_prop, o_sl, o_nth, o_make, o_tagO_t, o_tagO_f, o_slice, o_no, o_so, o_intOf, o_isi, o_fmt, o_js_nil, o_js_cons, o_m1, o_call1, o_next, o_seq, o_break, o_cont, o_ret, o_retN, o_drop, o_ifS, o_set, o_asg, o_put_p, o_put_f, o_put_b, o_leak_p, o_leak_f, o_leak_b, o_for, o_loop_nil, o_gN, o_gT, o_gL, o_gsNil, o_gsCons, o_any, o_enum, o_range1, o_range2, o_lc, o_lcL_nil, o_rev, o_turn, o_ownIn, o_sWr, o_sPut, o_sNever, o_kd_nx, o_kd_rt, o_kd_ex, o_frOf_p, o_frOf_f, o_frOf_b, List.getElem?_cons_zero, List.getElem?_cons_succ, List.map_cons, List.map_nil, List.cons_append, List.nil_append, List.append_nil, List.length_cons, List.length_nil, List.set_cons_zero, List.set_cons_succ, List.replicate, Nat.sub_self, Nat.zero_add, Nat.reduceAdd, Nat.reduceSub, if_true, if_false, Bool.false_eq_true, Bool.not_true, Bool.not_false, true_and, and_true, reduceIte, startE, frz, frz1, wipeE, Option.some.injEq, Sl.sh.injEq, Sl.own.injEq, o_nilT, o_consT, o_par, setD, unB, o_aug, o_augI, o_hN, o_hSub, o_hsNil, o_hsCons, o_hT, o_asgH, o_wrPop, o_dic, o_asT, v_asT_z, v_asT_t, v_asT_i, v_asT_l, o_methR, o_opR, o_ni]
    refine loop_inv (fun i ρ => ∃ s3 s4 s5 s6 s7 s8, ρ = [.sh .ptr, .sh (kD l), .sh (.lst (made.map rowD)), s3, s4, s5, s6, s7, s8] ∧ NO s6) (n := 0) ⟨_, _, _, _, _, _, rfl, .no⟩ (fun d hd i ρ K hi h next => ?_) (fun ρ h => ?_)
    · obtain ⟨s3, s4, s5, s6, s7, s8, rfl, n6⟩ := h
      obtain ⟨a, ham, rfl⟩ := List.mem_map.mp hd
      have ga := hgm a ham
      refine ⟨by simp, seq_bar fun K7 hK7 => ?_⟩
      try simp only [o_slot_sh, o_slot_own, o_var, o_c, o_op, o_un, o_nil, o_cons, o_consB, o_star, o_items_l, o_items_t, o_tup, o_lst, o_call, o_if, o_blOf, o_andV, o_orV, o_notV, o_test, o_and, o_or, o_not, o_truth, o_yes, o_chain, o_own, o_pos, o_kw, o_asObj, o_meth, o_cm, o_prop, o_sl, o_nth, o_make, o_tagO_t, o_tagO_f, o_slice, o_no, o_so, o_intOf, o_isi, o_fmt, o_js_nil, o_js_cons, o_m1, o_call1, o_next, o_seq, o_break, o_cont, o_ret, o_retN, o_drop, o_ifS, o_set, o_asg, o_put_p, o_put_f, o_put_b, o_leak_p, o_leak_f, o_leak_b, o_for, o_loop_nil, o_gN, o_gT, o_gL, o_gsNil, o_gsCons, o_any, o_enum, o_range1, o_range2, o_lc, o_lcL_nil, o_rev, o_turn, o_ownIn, o_sWr, o_sPut, o_sNever, o_kd_nx, o_kd_rt, o_kd_ex, o_frOf_p, o_frOf_f, o_frOf_b, List.getElem?_cons_zero, List.getElem?_cons_succ, List.map_cons, List.map_nil, List.cons_append, List.nil_append, List.append_nil, List.length_cons, List.length_nil, List.set_cons_zero, List.set_cons_succ, List.replicate, Nat.sub_self, Nat.zero_add, Nat.reduceAdd, Nat.reduceSub, if_true, if_false, Bool.false_eq_true, Bool.not_true, Bool.not_false, true_and, and_true, reduceIte, startE, frz, frz1, wipeE, Option.some.injEq, Sl.sh.injEq, Sl.own.injEq, o_nilT, o_consT, o_par, setD, unB, o_aug, o_augI, o_hN, o_hSub, o_hsNil, o_hsCons, o_hT, o_asgH, o_wrPop, o_dic, o_asT, v_asT_z, v_asT_t, v_asT_i, v_asT_l, o_methR, o_opR, o_ni]
      refine loop_inv (fun i ρ => ∃ s3 s4 s6 s7 s8, ρ = [.sh .ptr, .sh (kD l), .sh (.lst (made.map rowD)), s3, s4, .sh (rowD a), s6, s7, s8] ∧ NO s6) (n := 0) ⟨_, _, _, _, _, rfl, n6⟩ (fun d hd i ρ K2 hi h next2 => ?_) (fun ρ h => ?_)
      · obtain ⟨s3, s4, s6, s7, s8, rfl, n6⟩ := h
        obtain ⟨b, hbm, rfl⟩ := List.mem_map.mp hd
        have gb := hgm b hbm
        have ts := text_same ga.ok gb.ok
        have t2 : ∀ x : Bool, tame (D.lst [.bl x, .bl (!x)]) = true := fun x => by simp
        have d2 : ∀ x : Bool, dep (D.lst [.bl x, .bl (!x)]) ≤ 60 := fun x => by simp
        have w2 : ∀ x : Bool, shW (D.lst [.bl x, .bl (!x)]) ≤ sizeLine := fun x => small_line (by simp)
        have ds : decide (some b = some a) = decide (a = b) := decide_eq_decide.mpr ⟨fun e => (Option.some.inj e).symm, fun e => by rw [e]⟩
        refine ⟨by simp, seq_bar fun K8 hK8 => ?_⟩
        try simp only [o_slot_sh, o_slot_own, o_var, o_c, o_op, o_un, o_nil, o_cons, o_consB, o_star, o_items_l, o_items_t, o_tup, o_lst, o_call, o_if, o_blOf, o_andV, o_orV, o_notV, o_test, o_and, o_or, o_not, o_truth, o_yes, o_chain, o_own, o_pos, o_kw, o_asObj, o_meth, o_cm, o_prop, o_sl, o_nth, o_make, o_tagO_t, o_tagO_f, o_slice, o_no, o_so, o_intOf, o_isi, o_fmt, o_js_nil, o_js_cons, o_m1, o_call1, o_next, o_seq, o_break, o_cont, o_ret, o_retN, o_drop, o_ifS, o_set, o_asg, o_put_p, o_put_f, o_put_b, o_leak_p, o_leak_f, o_leak_b, o_for, o_loop_nil, o_gN, o_gT, o_gL, o_gsNil, o_gsCons, o_any, o_enum, o_range1, o_range2, o_lc, o_lcL_nil, o_rev, o_turn, o_ownIn, o_sWr, o_sPut, o_sNever, o_kd_nx, o_kd_rt, o_kd_ex, o_frOf_p, o_frOf_f, o_frOf_b, List.getElem?_cons_zero, List.getElem?_cons_succ, List.map_cons, List.map_nil, List.cons_append, List.nil_append, List.append_nil, List.length_cons, List.length_nil, List.set_cons_zero, List.set_cons_succ, List.replicate, Nat.sub_self, Nat.zero_add, Nat.reduceAdd, Nat.reduceSub, if_true, if_false, Bool.false_eq_true, Bool.not_true, Bool.not_false, true_and, and_true, reduceIte, startE, frz, frz1, wipeE, Option.some.injEq, Sl.sh.injEq, Sl.own.injEq, o_nilT, o_consT, o_par, setD, unB, o_aug, o_augI, o_hN, o_hSub, o_hsNil, o_hsCons, o_hT, o_asgH, o_wrPop, o_dic, o_asT, v_asT_z, v_asT_t, v_asT_i, v_asT_l, o_methR, o_opR, o_ni, rowD]
        repeat refine ⟨rfl, ?_⟩
        refine ⟨a, rfl, ga, ?_⟩
        try simp only [o_slot_sh, o_slot_own, o_var, o_c, o_op, o_un, o_nil, o_cons, o_consB, o_star, o_items_l, o_items_t, o_tup, o_lst, o_call, o_if, o_blOf, o_andV, o_orV, o_notV, o_test, o_and, o_or, o_not, o_truth, o_yes, o_chain, o_own, o_pos, o_kw, o_asObj, o_meth, o_cm, o_prop, o_sl, o_nth, o_make, o_tagO_t, o_tagO_f, o_slice, o_no, o_so, o_intOf, o_isi, o_fmt, o_js_nil, o_js_cons, o_m1, o_call1, o_next, o_seq, o_break, o_cont, o_ret, o_retN, o_drop, o_ifS, o_set, o_asg, o_put_p, o_put_f, o_put_b, o_leak_p, o_leak_f, o_leak_b, o_for, o_loop_nil, o_gN, o_gT, o_gL, o_gsNil, o_gsCons, o_any, o_enum, o_range1, o_range2, o_lc, o_lcL_nil, o_rev, o_turn, o_ownIn, o_sWr, o_sPut, o_sNever, o_kd_nx, o_kd_rt, o_kd_ex, o_frOf_p, o_frOf_f, o_frOf_b, List.getElem?_cons_zero, List.getElem?_cons_succ, List.map_cons, List.map_nil, List.cons_append, List.nil_append, List.append_nil, List.length_cons, List.length_nil, List.set_cons_zero, List.set_cons_succ, List.replicate, Nat.sub_self, Nat.zero_add, Nat.reduceAdd, Nat.reduceSub, if_true, if_false, Bool.false_eq_true, Bool.not_true, Bool.not_false, true_and, and_true, reduceIte, startE, frz, frz1, wipeE, Option.some.injEq, Sl.sh.injEq, Sl.own.injEq, o_nilT, o_consT, o_par, setD, unB, o_aug, o_augI, o_hN, o_hSub, o_hsNil, o_hsCons, o_hT, o_asgH, o_wrPop, o_dic, o_asT, v_asT_z, v_asT_t, v_asT_i, v_asT_l, o_methR, o_opR, o_ni]
        repeat refine ⟨rfl, ?_⟩
        refine ⟨b, rfl, gb, ?_⟩
        try simp only [o_slot_sh, o_slot_own, o_var, o_c, o_op, o_un, o_nil, o_cons, o_consB, o_star, o_items_l, o_items_t, o_tup, o_lst, o_call, o_if, o_blOf, o_andV, o_orV, o_notV, o_test, o_and, o_or, o_not, o_truth, o_yes, o_chain, o_own, o_pos, o_kw, o_asObj, o_meth, o_cm, o_prop, o_sl, o_nth, o_make, o_tagO_t, o_tagO_f, o_slice, o_no, o_so, o_intOf, o_isi, o_fmt, o_js_nil, o_js_cons, o_m1, o_call1, o_next, o_seq, o_break, o_cont, o_ret, o_retN, o_drop, o_ifS, o_set, o_asg, o_put_p, o_put_f, o_put_b, o_leak_p, o_leak_f, o_leak_b, o_for, o_loop_nil, o_gN, o_gT, o_gL, o_gsNil, o_gsCons, o_any, o_enum, o_range1, o_range2, o_lc, o_lcL_nil, o_rev, o_turn, o_ownIn, o_sWr, o_sPut, o_sNever, o_kd_nx, o_kd_rt, o_kd_ex, o_frOf_p, o_frOf_f, o_frOf_b, List.getElem?_cons_zero, List.getElem?_cons_succ, List.map_cons, List.map_nil, List.cons_append, List.nil_append, List.append_nil, List.length_cons, List.length_nil, List.set_cons_zero, List.set_cons_succ, List.replicate, Nat.sub_self, Nat.zero_add, Nat.reduceAdd, Nat.reduceSub, if_true, if_false, Bool.false_eq_true, Bool.not_true, Bool.not_false, true_and, and_true, reduceIte, startE, frz, frz1, wipeE, Option.some.injEq, Sl.sh.injEq, Sl.own.injEq, o_nilT, o_consT, o_par, setD, unB, o_aug, o_augI, o_hN, o_hSub, o_hsNil, o_hsCons, o_hT, o_asgH, o_wrPop, o_dic, o_asT, v_asT_z, v_asT_t, v_asT_i, v_asT_l, o_methR, o_opR, o_ni, v_eqs (strOk_text a) (strOk_text b), ts]
        refine hK8 _ ?_
        try simp only [o_slot_sh, o_slot_own, o_var, o_c, o_op, o_un, o_nil, o_cons, o_consB, o_star, o_items_l, o_items_t, o_tup, o_lst, o_call, o_if, o_blOf, o_andV, o_orV, o_notV, o_test, o_and, o_or, o_not, o_truth, o_yes, o_chain, o_own, o_pos, o_kw, o_asObj, o_meth, o_cm, o_prop, o_sl, o_nth, o_make, o_tagO_t, o_tagO_f, o_slice, o_no, o_so, o_intOf, o_isi, o_fmt, o_js_nil, o_js_cons, o_m1, o_call1, o_next, o_seq, o_break, o_cont, o_ret, o_retN, o_drop, o_ifS, o_set, o_asg, o_put_p, o_put_f, o_put_b, o_leak_p, o_leak_f, o_leak_b, o_for, o_loop_nil, o_gN, o_gT, o_gL, o_gsNil, o_gsCons, o_any, o_enum, o_range1, o_range2, o_lc, o_lcL_nil, o_rev, o_turn, o_ownIn, o_sWr, o_sPut, o_sNever, o_kd_nx, o_kd_rt, o_kd_ex, o_frOf_p, o_frOf_f, o_frOf_b, List.getElem?_cons_zero, List.getElem?_cons_succ, List.map_cons, List.map_nil, List.cons_append, List.nil_append, List.append_nil, List.length_cons, List.length_nil, List.set_cons_zero, List.set_cons_succ, List.replicate, Nat.sub_self, Nat.zero_add, Nat.reduceAdd, Nat.reduceSub, if_true, if_false, Bool.false_eq_true, Bool.not_true, Bool.not_false, true_and, and_true, reduceIte, startE, frz, frz1, wipeE, Option.some.injEq, Sl.sh.injEq, Sl.own.injEq, o_nilT, o_consT, o_par, setD, unB, o_aug, o_augI, o_hN, o_hSub, o_hsNil, o_hsCons, o_hT, o_asgH, o_wrPop, o_dic, o_asT, v_asT_z, v_asT_t, v_asT_i, v_asT_l, o_methR, o_opR, o_ni, spOq, eqS, neS]
        refine ⟨rfl, a, _, some b, rfl, ga.ok, ⟨b, rfl, rfl, gb.ok⟩, ?_⟩
        have sy : decide (b = a) = decide (a = b) := decide_eq_decide.mpr ⟨fun e => e.symm, fun e => e.symm⟩
        try simp only [o_slot_sh, o_slot_own, o_var, o_c, o_op, o_un, o_nil, o_cons, o_consB, o_star, o_items_l, o_items_t, o_tup, o_lst, o_call, o_if, o_blOf, o_andV, o_orV, o_notV, o_test, o_and, o_or, o_not, o_truth, o_yes, o_chain, o_own, o_pos, o_kw, o_asObj, o_meth, o_cm, o_prop, o_sl, o_nth, o_make, o_tagO_t, o_tagO_f, o_slice, o_no, o_so, o_intOf, o_isi, o_fmt, o_js_nil, o_js_cons, o_m1, o_call1, o_next, o_seq, o_break, o_cont, o_ret, o_retN, o_drop, o_ifS, o_set, o_asg, o_put_p, o_put_f, o_put_b, o_leak_p, o_leak_f, o_leak_b, o_for, o_loop_nil, o_gN, o_gT, o_gL, o_gsNil, o_gsCons, o_any, o_enum, o_range1, o_range2, o_lc, o_lcL_nil, o_rev, o_turn, o_ownIn, o_sWr, o_sPut, o_sNever, o_kd_nx, o_kd_rt, o_kd_ex, o_frOf_p, o_frOf_f, o_frOf_b, List.getElem?_cons_zero, List.getElem?_cons_succ, List.map_cons, List.map_nil, List.cons_append, List.nil_append, List.append_nil, List.length_cons, List.length_nil, List.set_cons_zero, List.set_cons_succ, List.replicate, Nat.sub_self, Nat.zero_add, Nat.reduceAdd, Nat.reduceSub, if_true, if_false, Bool.false_eq_true, Bool.not_true, Bool.not_false, true_and, and_true, reduceIte, startE, frz, frz1, wipeE, Option.some.injEq, Sl.sh.injEq, Sl.own.injEq, o_nilT, o_consT, o_par, setD, unB, o_aug, o_augI, o_hN, o_hSub, o_hsNil, o_hsCons, o_hT, o_asgH, o_wrPop, o_dic, o_asT, v_asT_z, v_asT_t, v_asT_i, v_asT_l, o_methR, o_opR, o_ni, ds, sy]
        refine ⟨rfl, a, _, some b, rfl, ga.ok, ⟨b, rfl, rfl, gb.ok⟩, ?_⟩
        try simp only [o_slot_sh, o_slot_own, o_var, o_c, o_op, o_un, o_nil, o_cons, o_consB, o_star, o_items_l, o_items_t, o_tup, o_lst, o_call, o_if, o_blOf, o_andV, o_orV, o_notV, o_test, o_and, o_or, o_not, o_truth, o_yes, o_chain, o_own, o_pos, o_kw, o_asObj, o_meth, o_cm, o_prop, o_sl, o_nth, o_make, o_tagO_t, o_tagO_f, o_slice, o_no, o_so, o_intOf, o_isi, o_fmt, o_js_nil, o_js_cons, o_m1, o_call1, o_next, o_seq, o_break, o_cont, o_ret, o_retN, o_drop, o_ifS, o_set, o_asg, o_put_p, o_put_f, o_put_b, o_leak_p, o_leak_f, o_leak_b, o_for, o_loop_nil, o_gN, o_gT, o_gL, o_gsNil, o_gsCons, o_any, o_enum, o_range1, o_range2, o_lc, o_lcL_nil, o_rev, o_turn, o_ownIn, o_sWr, o_sPut, o_sNever, o_kd_nx, o_kd_rt, o_kd_ex, o_frOf_p, o_frOf_f, o_frOf_b, List.getElem?_cons_zero, List.getElem?_cons_succ, List.map_cons, List.map_nil, List.cons_append, List.nil_append, List.append_nil, List.length_cons, List.length_nil, List.set_cons_zero, List.set_cons_succ, List.replicate, Nat.sub_self, Nat.zero_add, Nat.reduceAdd, Nat.reduceSub, if_true, if_false, Bool.false_eq_true, Bool.not_true, Bool.not_false, true_and, and_true, reduceIte, startE, frz, frz1, wipeE, Option.some.injEq, Sl.sh.injEq, Sl.own.injEq, o_nilT, o_consT, o_par, setD, unB, o_aug, o_augI, o_hN, o_hSub, o_hsNil, o_hsCons, o_hT, o_asgH, o_wrPop, o_dic, o_asT, v_asT_z, v_asT_t, v_asT_i, v_asT_l, o_methR, o_opR, o_ni, ds, sy, z2, v_repr (t2 _) (d2 _) (w2 _), v_same (t2 _)]
        exact next2 _ ⟨_, _, _, _, _, rfl, .sh⟩
      · obtain ⟨s3, s4, s6, s7, s8, rfl, n6⟩ := h
        refine hK7 _ (seq_bar fun K8 hK8 => ?_)
        try simp only [o_slot_sh, o_slot_own, o_var, o_c, o_op, o_un, o_nil, o_cons, o_consB, o_star, o_items_l, o_items_t, o_tup, o_lst, o_call, o_if, o_blOf, o_andV, o_orV, o_notV, o_test, o_and, o_or, o_not, o_truth, o_yes, o_chain, o_own, o_pos, o_kw, o_asObj, o_meth, o_cm, o_prop, o_sl, o_nth, o_make, o_tagO_t, o_tagO_f, o_slice, o_no, o_so, o_intOf, o_isi, o_fmt, o_js_nil, o_js_cons, o_m1, o_call1, o_next, o_seq, o_break, o_cont, o_ret, o_retN, o_drop, o_ifS, o_set, o_asg, o_put_p, o_put_f, o_put_b, o_leak_p, o_leak_f, o_leak_b, o_for, o_loop_nil, o_gN, o_gT, o_gL, o_gsNil, o_gsCons, o_any, o_enum, o_range1, o_range2, o_lc, o_lcL_nil, o_rev, o_turn, o_ownIn, o_sWr, o_sPut, o_sNever, o_kd_nx, o_kd_rt, o_kd_ex, o_frOf_p, o_frOf_f, o_frOf_b, List.getElem?_cons_zero, List.getElem?_cons_succ, List.map_cons, List.map_nil, List.cons_append, List.nil_append, List.append_nil, List.length_cons, List.length_nil, List.set_cons_zero, List.set_cons_succ, List.replicate, Nat.sub_self, Nat.zero_add, Nat.reduceAdd, Nat.reduceSub, if_true, if_false, Bool.false_eq_true, Bool.not_true, Bool.not_false, true_and, and_true, reduceIte, startE, frz, frz1, wipeE, Option.some.injEq, Sl.sh.injEq, Sl.own.injEq, o_nilT, o_consT, o_par, setD, unB, o_aug, o_augI, o_hN, o_hSub, o_hsNil, o_hsCons, o_hT, o_asgH, o_wrPop, o_dic, o_asT, v_asT_z, v_asT_t, v_asT_i, v_asT_l, o_methR, o_opR, o_ni, rowD]
        repeat refine ⟨rfl, ?_⟩
        refine ⟨a, rfl, ga, ?_⟩
        try simp only [o_slot_sh, o_slot_own, o_var, o_c, o_op, o_un, o_nil, o_cons, o_consB, o_star, o_items_l, o_items_t, o_tup, o_lst, o_call, o_if, o_blOf, o_andV, o_orV, o_notV, o_test, o_and, o_or, o_not, o_truth, o_yes, o_chain, o_own, o_pos, o_kw, o_asObj, o_meth, o_cm, o_prop, o_sl, o_nth, o_make, o_tagO_t, o_tagO_f, o_slice, o_no, o_so, o_intOf, o_isi, o_fmt, o_js_nil, o_js_cons, o_m1, o_call1, o_next, o_seq, o_break, o_cont, o_ret, o_retN, o_drop, o_ifS, o_set, o_asg, o_put_p, o_put_f, o_put_b, o_leak_p, o_leak_f, o_leak_b, o_for, o_loop_nil, o_gN, o_gT, o_gL, o_gsNil, o_gsCons, o_any, o_enum, o_range1, o_range2, o_lc, o_lcL_nil, o_rev, o_turn, o_ownIn, o_sWr, o_sPut, o_sNever, o_kd_nx, o_kd_rt, o_kd_ex, o_frOf_p, o_frOf_f, o_frOf_b, List.getElem?_cons_zero, List.getElem?_cons_succ, List.map_cons, List.map_nil, List.cons_append, List.nil_append, List.append_nil, List.length_cons, List.length_nil, List.set_cons_zero, List.set_cons_succ, List.replicate, Nat.sub_self, Nat.zero_add, Nat.reduceAdd, Nat.reduceSub, if_true, if_false, Bool.false_eq_true, Bool.not_true, Bool.not_false, true_and, and_true, reduceIte, startE, frz, frz1, wipeE, Option.some.injEq, Sl.sh.injEq, Sl.own.injEq, o_nilT, o_consT, o_par, setD, unB, o_aug, o_augI, o_hN, o_hSub, o_hsNil, o_hsCons, o_hT, o_asgH, o_wrPop, o_dic, o_asT, v_asT_z, v_asT_t, v_asT_i, v_asT_l, o_methR, o_opR, o_ni]
        refine ⟨_, rfl, ?_⟩
        try simp only [o_slot_sh, o_slot_own, o_var, o_c, o_op, o_un, o_nil, o_cons, o_consB, o_star, o_items_l, o_items_t, o_tup, o_lst, o_call, o_if, o_blOf, o_andV, o_orV, o_notV, o_test, o_and, o_or, o_not, o_truth, o_yes, o_chain, o_own, o_pos, o_kw, o_asObj, o_meth, o_cm, o_prop, o_sl, o_nth, o_make, o_tagO_t, o_tagO_f, o_slice, o_no, o_so, o_intOf, o_isi, o_fmt, o_js_nil, o_js_cons, o_m1, o_call1, o_next, o_seq, o_break, o_cont, o_ret, o_retN, o_drop, o_ifS, o_set, o_asg, o_put_p, o_put_f, o_put_b, o_leak_p, o_leak_f, o_leak_b, o_for, o_loop_nil, o_gN, o_gT, o_gL, o_gsNil, o_gsCons, o_any, o_enum, o_range1, o_range2, o_lc, o_lcL_nil, o_rev, o_turn, o_ownIn, o_sWr, o_sPut, o_sNever, o_kd_nx, o_kd_rt, o_kd_ex, o_frOf_p, o_frOf_f, o_frOf_b, List.getElem?_cons_zero, List.getElem?_cons_succ, List.map_cons, List.map_nil, List.cons_append, List.nil_append, List.append_nil, List.length_cons, List.length_nil, List.set_cons_zero, List.set_cons_succ, List.replicate, Nat.sub_self, Nat.zero_add, Nat.reduceAdd, Nat.reduceSub, if_true, if_false, Bool.false_eq_true, Bool.not_true, Bool.not_false, true_and, and_true, reduceIte, startE, frz, frz1, wipeE, Option.some.injEq, Sl.sh.injEq, Sl.own.injEq, o_nilT, o_consT, o_par, setD, unB, o_aug, o_augI, o_hN, o_hSub, o_hsNil, o_hsCons, o_hT, o_asgH, o_wrPop, o_dic, o_asT, v_asT_z, v_asT_t, v_asT_i, v_asT_l, o_methR, o_opR, o_ni]
        refine ⟨a, rfl, ga, ?_⟩
        try simp only [o_slot_sh, o_slot_own, o_var, o_c, o_op, o_un, o_nil, o_cons, o_consB, o_star, o_items_l, o_items_t, o_tup, o_lst, o_call, o_if, o_blOf, o_andV, o_orV, o_notV, o_test, o_and, o_or, o_not, o_truth, o_yes, o_chain, o_own, o_pos, o_kw, o_asObj, o_meth, o_cm, o_prop, o_sl, o_nth, o_make, o_tagO_t, o_tagO_f, o_slice, o_no, o_so, o_intOf, o_isi, o_fmt, o_js_nil, o_js_cons, o_m1, o_call1, o_next, o_seq, o_break, o_cont, o_ret, o_retN, o_drop, o_ifS, o_set, o_asg, o_put_p, o_put_f, o_put_b, o_leak_p, o_leak_f, o_leak_b, o_for, o_loop_nil, o_gN, o_gT, o_gL, o_gsNil, o_gsCons, o_any, o_enum, o_range1, o_range2, o_lc, o_lcL_nil, o_rev, o_turn, o_ownIn, o_sWr, o_sPut, o_sNever, o_kd_nx, o_kd_rt, o_kd_ex, o_frOf_p, o_frOf_f, o_frOf_b, List.getElem?_cons_zero, List.getElem?_cons_succ, List.map_cons, List.map_nil, List.cons_append, List.nil_append, List.append_nil, List.length_cons, List.length_nil, List.set_cons_zero, List.set_cons_succ, List.replicate, Nat.sub_self, Nat.zero_add, Nat.reduceAdd, Nat.reduceSub, if_true, if_false, Bool.false_eq_true, Bool.not_true, Bool.not_false, true_and, and_true, reduceIte, startE, frz, frz1, wipeE, Option.some.injEq, Sl.sh.injEq, Sl.own.injEq, o_nilT, o_consT, o_par, setD, unB, o_aug, o_augI, o_hN, o_hSub, o_hsNil, o_hsCons, o_hT, o_asgH, o_wrPop, o_dic, o_asT, v_asT_z, v_asT_t, v_asT_i, v_asT_l, o_methR, o_opR, o_ni]
        refine ⟨_, rfl, ?_⟩
        try simp only [o_slot_sh, o_slot_own, o_var, o_c, o_op, o_un, o_nil, o_cons, o_consB, o_star, o_items_l, o_items_t, o_tup, o_lst, o_call, o_if, o_blOf, o_andV, o_orV, o_notV, o_test, o_and, o_or, o_not, o_truth, o_yes, o_chain, o_own, o_pos, o_kw, o_asObj, o_meth, o_cm, o_prop, o_sl, o_nth, o_make, o_tagO_t, o_tagO_f, o_slice, o_no, o_so, o_intOf, o_isi, o_fmt, o_js_nil, o_js_cons, o_m1, o_call1, o_next, o_seq, o_break, o_cont, o_ret, o_retN, o_drop, o_ifS, o_set, o_asg, o_put_p, o_put_f, o_put_b, o_leak_p, o_leak_f, o_leak_b, o_for, o_loop_nil, o_gN, o_gT, o_gL, o_gsNil, o_gsCons, o_any, o_enum, o_range1, o_range2, o_lc, o_lcL_nil, o_rev, o_turn, o_ownIn, o_sWr, o_sPut, o_sNever, o_kd_nx, o_kd_rt, o_kd_ex, o_frOf_p, o_frOf_f, o_frOf_b, List.getElem?_cons_zero, List.getElem?_cons_succ, List.map_cons, List.map_nil, List.cons_append, List.nil_append, List.append_nil, List.length_cons, List.length_nil, List.set_cons_zero, List.set_cons_succ, List.replicate, Nat.sub_self, Nat.zero_add, Nat.reduceAdd, Nat.reduceSub, if_true, if_false, Bool.false_eq_true, Bool.not_true, Bool.not_false, true_and, and_true, reduceIte, startE, frz, frz1, wipeE, Option.some.injEq, Sl.sh.injEq, Sl.own.injEq, o_nilT, o_consT, o_par, setD, unB, o_aug, o_augI, o_hN, o_hSub, o_hsNil, o_hsCons, o_hT, o_asgH, o_wrPop, o_dic, o_asT, v_asT_z, v_asT_t, v_asT_i, v_asT_l, o_methR, o_opR, o_ni, z1]
        refine ⟨rfl, fun th hth => ?_⟩
        try simp only [o_slot_sh, o_slot_own, o_var, o_c, o_op, o_un, o_nil, o_cons, o_consB, o_star, o_items_l, o_items_t, o_tup, o_lst, o_call, o_if, o_blOf, o_andV, o_orV, o_notV, o_test, o_and, o_or, o_not, o_truth, o_yes, o_chain, o_own, o_pos, o_kw, o_asObj, o_meth, o_cm, o_prop, o_sl, o_nth, o_make, o_tagO_t, o_tagO_f, o_slice, o_no, o_so, o_intOf, o_isi, o_fmt, o_js_nil, o_js_cons, o_m1, o_call1, o_next, o_seq, o_break, o_cont, o_ret, o_retN, o_drop, o_ifS, o_set, o_asg, o_put_p, o_put_f, o_put_b, o_leak_p, o_leak_f, o_leak_b, o_for, o_loop_nil, o_gN, o_gT, o_gL, o_gsNil, o_gsCons, o_any, o_enum, o_range1, o_range2, o_lc, o_lcL_nil, o_rev, o_turn, o_ownIn, o_sWr, o_sPut, o_sNever, o_kd_nx, o_kd_rt, o_kd_ex, o_frOf_p, o_frOf_f, o_frOf_b, List.getElem?_cons_zero, List.getElem?_cons_succ, List.map_cons, List.map_nil, List.cons_append, List.nil_append, List.append_nil, List.length_cons, List.length_nil, List.set_cons_zero, List.set_cons_succ, List.replicate, Nat.sub_self, Nat.zero_add, Nat.reduceAdd, Nat.reduceSub, if_true, if_false, Bool.false_eq_true, Bool.not_true, Bool.not_false, true_and, and_true, reduceIte, startE, frz, frz1, wipeE, Option.some.injEq, Sl.sh.injEq, Sl.own.injEq, o_nilT, o_consT, o_par, setD, unB, o_aug, o_augI, o_hN, o_hSub, o_hsNil, o_hsCons, o_hT, o_asgH, o_wrPop, o_dic, o_asT, v_asT_z, v_asT_t, v_asT_i, v_asT_l, o_methR, o_opR, o_ni, z1, z8]
        refine loop_inv (fun i ρ => ∃ s3 s4 s6 s7 s8, ρ = [.sh .ptr, .sh (kD l), .sh (.lst (made.map rowD)), s3, s4, .sh (rowD a), s6, s7, s8] ∧ NO s6) (n := 0) ⟨_, _, _, _, _, rfl, n6⟩ (fun v hv i ρ K2 hi h next2 => ?_) (fun ρ h => ?_)
        · obtain ⟨s3, s4, s6, s7, s8, rfl, n6⟩ := h
          obtain ⟨vB, vO, vR⟩ : isB v ∧ okO 0 v ∧ rowQ v none := by
            simp only [List.mem_cons, List.not_mem_nil, or_false] at hv
            rcases hv with rfl | rfl | rfl | rfl | rfl | rfl | rfl | rfl
            all_goals first | exact things_ok _ hth | exact ⟨trivial, trivial, rfl⟩
          have dn : decide ((none : Option (List (Int × Int))) = some a) = false := by simp
          have fin : K2 [.sh .ptr, .sh (kD l), .sh (.lst (made.map rowD)), s3, s4, .sh (rowD a), s6, .sh v, s8] := next2 _ ⟨_, _, _, _, _, rfl, n6⟩
          try simp only [o_slot_sh, o_slot_own, o_var, o_c, o_op, o_un, o_nil, o_cons, o_consB, o_star, o_items_l, o_items_t, o_tup, o_lst, o_call, o_if, o_blOf, o_andV, o_orV, o_notV, o_test, o_and, o_or, o_not, o_truth, o_yes, o_chain, o_own, o_pos, o_kw, o_asObj, o_meth, o_cm, o_prop, o_sl, o_nth, o_make, o_tagO_t, o_tagO_f, o_slice, o_no, o_so, o_intOf, o_isi, o_fmt, o_js_nil, o_js_cons, o_m1, o_call1, o_next, o_seq, o_break, o_cont, o_ret, o_retN, o_drop, o_ifS, o_set, o_asg, o_put_p, o_put_f, o_put_b, o_leak_p, o_leak_f, o_leak_b, o_for, o_loop_nil, o_gN, o_gT, o_gL, o_gsNil, o_gsCons, o_any, o_enum, o_range1, o_range2, o_lc, o_lcL_nil, o_rev, o_turn, o_ownIn, o_sWr, o_sPut, o_sNever, o_kd_nx, o_kd_rt, o_kd_ex, o_frOf_p, o_frOf_f, o_frOf_b, List.getElem?_cons_zero, List.getElem?_cons_succ, List.map_cons, List.map_nil, List.cons_append, List.nil_append, List.append_nil, List.length_cons, List.length_nil, List.set_cons_zero, List.set_cons_succ, List.replicate, Nat.sub_self, Nat.zero_add, Nat.reduceAdd, Nat.reduceSub, if_true, if_false, Bool.false_eq_true, Bool.not_true, Bool.not_false, true_and, and_true, reduceIte, startE, frz, frz1, wipeE, Option.some.injEq, Sl.sh.injEq, Sl.own.injEq, o_nilT, o_consT, o_par, setD, unB, o_aug, o_augI, o_hN, o_hSub, o_hsNil, o_hsCons, o_hT, o_asgH, o_wrPop, o_dic, o_asT, v_asT_z, v_asT_t, v_asT_i, v_asT_l, o_methR, o_opR, o_ni, Nat.reduceLT, Nat.lt_add_one, rowD, spOq, eqS, neS]
          refine ⟨vO, a, v, none, rfl, ga.ok, vR, ?_⟩
          try simp only [o_slot_sh, o_slot_own, o_var, o_c, o_op, o_un, o_nil, o_cons, o_consB, o_star, o_items_l, o_items_t, o_tup, o_lst, o_call, o_if, o_blOf, o_andV, o_orV, o_notV, o_test, o_and, o_or, o_not, o_truth, o_yes, o_chain, o_own, o_pos, o_kw, o_asObj, o_meth, o_cm, o_prop, o_sl, o_nth, o_make, o_tagO_t, o_tagO_f, o_slice, o_no, o_so, o_intOf, o_isi, o_fmt, o_js_nil, o_js_cons, o_m1, o_call1, o_next, o_seq, o_break, o_cont, o_ret, o_retN, o_drop, o_ifS, o_set, o_asg, o_put_p, o_put_f, o_put_b, o_leak_p, o_leak_f, o_leak_b, o_for, o_loop_nil, o_gN, o_gT, o_gL, o_gsNil, o_gsCons, o_any, o_enum, o_range1, o_range2, o_lc, o_lcL_nil, o_rev, o_turn, o_ownIn, o_sWr, o_sPut, o_sNever, o_kd_nx, o_kd_rt, o_kd_ex, o_frOf_p, o_frOf_f, o_frOf_b, List.getElem?_cons_zero, List.getElem?_cons_succ, List.map_cons, List.map_nil, List.cons_append, List.nil_append, List.append_nil, List.length_cons, List.length_nil, List.set_cons_zero, List.set_cons_succ, List.replicate, Nat.sub_self, Nat.zero_add, Nat.reduceAdd, Nat.reduceSub, if_true, if_false, Bool.false_eq_true, Bool.not_true, Bool.not_false, true_and, and_true, reduceIte, startE, frz, frz1, wipeE, Option.some.injEq, Sl.sh.injEq, Sl.own.injEq, o_nilT, o_consT, o_par, setD, unB, o_aug, o_augI, o_hN, o_hSub, o_hsNil, o_hsCons, o_hT, o_asgH, o_wrPop, o_dic, o_asT, v_asT_z, v_asT_t, v_asT_i, v_asT_l, o_methR, o_opR, o_ni, dn]
          refine ⟨vO, a, v, none, rfl, ga.ok, vR, ?_⟩
          try simp only [o_slot_sh, o_slot_own, o_var, o_c, o_op, o_un, o_nil, o_cons, o_consB, o_star, o_items_l, o_items_t, o_tup, o_lst, o_call, o_if, o_blOf, o_andV, o_orV, o_notV, o_test, o_and, o_or, o_not, o_truth, o_yes, o_chain, o_own, o_pos, o_kw, o_asObj, o_meth, o_cm, o_prop, o_sl, o_nth, o_make, o_tagO_t, o_tagO_f, o_slice, o_no, o_so, o_intOf, o_isi, o_fmt, o_js_nil, o_js_cons, o_m1, o_call1, o_next, o_seq, o_break, o_cont, o_ret, o_retN, o_drop, o_ifS, o_set, o_asg, o_put_p, o_put_f, o_put_b, o_leak_p, o_leak_f, o_leak_b, o_for, o_loop_nil, o_gN, o_gT, o_gL, o_gsNil, o_gsCons, o_any, o_enum, o_range1, o_range2, o_lc, o_lcL_nil, o_rev, o_turn, o_ownIn, o_sWr, o_sPut, o_sNever, o_kd_nx, o_kd_rt, o_kd_ex, o_frOf_p, o_frOf_f, o_frOf_b, List.getElem?_cons_zero, List.getElem?_cons_succ, List.map_cons, List.map_nil, List.cons_append, List.nil_append, List.append_nil, List.length_cons, List.length_nil, List.set_cons_zero, List.set_cons_succ, List.replicate, Nat.sub_self, Nat.zero_add, Nat.reduceAdd, Nat.reduceSub, if_true, if_false, Bool.false_eq_true, Bool.not_true, Bool.not_false, true_and, and_true, reduceIte, startE, frz, frz1, wipeE, Option.some.injEq, Sl.sh.injEq, Sl.own.injEq, o_nilT, o_consT, o_par, setD, unB, o_aug, o_augI, o_hN, o_hSub, o_hsNil, o_hsCons, o_hT, o_asgH, o_wrPop, o_dic, o_asT, v_asT_z, v_asT_t, v_asT_i, v_asT_l, o_methR, o_opR, o_ni, dn]
          cases v <;> first | exact vB.elim | skip
          all_goals
            try simp only [o_slot_sh, o_slot_own, o_var, o_c, o_op, o_un, o_nil, o_cons, o_consB, o_star, o_items_l, o_items_t, o_tup, o_lst, o_call, o_if, o_blOf, o_andV, o_orV, o_notV, o_test, o_and, o_or, o_not, o_truth, o_yes, o_chain, o_own, o_pos, o_kw, o_asObj, o_meth, o_cm, o_prop, o_sl, o_nth, o_make, o_tagO_t, o_tagO_f, o_slice, o_no, o_so, o_intOf, o_isi, o_fmt, o_js_nil, o_js_cons, o_m1, o_call1, o_next, o_seq, o_break, o_cont, o_ret, o_retN, o_drop, o_ifS, o_set, o_asg, o_put_p, o_put_f, o_put_b, o_leak_p, o_leak_f, o_leak_b, o_for, o_loop_nil, o_gN, o_gT, o_gL, o_gsNil, o_gsCons, o_any, o_enum, o_range1, o_range2, o_lc, o_lcL_nil, o_rev, o_turn, o_ownIn, o_sWr, o_sPut, o_sNever, o_kd_nx, o_kd_rt, o_kd_ex, o_frOf_p, o_frOf_f, o_frOf_b, List.getElem?_cons_zero, List.getElem?_cons_succ, List.map_cons, List.map_nil, List.cons_append, List.nil_append, List.append_nil, List.length_cons, List.length_nil, List.set_cons_zero, List.set_cons_succ, List.replicate, Nat.sub_self, Nat.zero_add, Nat.reduceAdd, Nat.reduceSub, if_true, if_false, Bool.false_eq_true, Bool.not_true, Bool.not_false, true_and, and_true, reduceIte, startE, frz, frz1, wipeE, Option.some.injEq, Sl.sh.injEq, Sl.own.injEq, o_nilT, o_consT, o_par, setD, unB, o_aug, o_augI, o_hN, o_hSub, o_hsNil, o_hsCons, o_hT, o_asgH, o_wrPop, o_dic, o_asT, v_asT_z, v_asT_t, v_asT_i, v_asT_l, o_methR, o_opR, o_ni, spRv, eqS]
            repeat refine ⟨rfl, ?_⟩
            refine ⟨vB, a, _, none, rfl, ga.ok, vR, ?_⟩
            try simp only [o_slot_sh, o_slot_own, o_var, o_c, o_op, o_un, o_nil, o_cons, o_consB, o_star, o_items_l, o_items_t, o_tup, o_lst, o_call, o_if, o_blOf, o_andV, o_orV, o_notV, o_test, o_and, o_or, o_not, o_truth, o_yes, o_chain, o_own, o_pos, o_kw, o_asObj, o_meth, o_cm, o_prop, o_sl, o_nth, o_make, o_tagO_t, o_tagO_f, o_slice, o_no, o_so, o_intOf, o_isi, o_fmt, o_js_nil, o_js_cons, o_m1, o_call1, o_next, o_seq, o_break, o_cont, o_ret, o_retN, o_drop, o_ifS, o_set, o_asg, o_put_p, o_put_f, o_put_b, o_leak_p, o_leak_f, o_leak_b, o_for, o_loop_nil, o_gN, o_gT, o_gL, o_gsNil, o_gsCons, o_any, o_enum, o_range1, o_range2, o_lc, o_lcL_nil, o_rev, o_turn, o_ownIn, o_sWr, o_sPut, o_sNever, o_kd_nx, o_kd_rt, o_kd_ex, o_frOf_p, o_frOf_f, o_frOf_b, List.getElem?_cons_zero, List.getElem?_cons_succ, List.map_cons, List.map_nil, List.cons_append, List.nil_append, List.append_nil, List.length_cons, List.length_nil, List.set_cons_zero, List.set_cons_succ, List.replicate, Nat.sub_self, Nat.zero_add, Nat.reduceAdd, Nat.reduceSub, if_true, if_false, Bool.false_eq_true, Bool.not_true, Bool.not_false, true_and, and_true, reduceIte, startE, frz, frz1, wipeE, Option.some.injEq, Sl.sh.injEq, Sl.own.injEq, o_nilT, o_consT, o_par, setD, unB, o_aug, o_augI, o_hN, o_hSub, o_hsNil, o_hsCons, o_hT, o_asgH, o_wrPop, o_dic, o_asT, v_asT_z, v_asT_t, v_asT_i, v_asT_l, o_methR, o_opR, o_ni, dn]
            exact fin
        · obtain ⟨s3, s4, s6, s7, s8, rfl, n6⟩ := h
          refine hK8 _ ?_
          have hz : (made.map rowD).length ≤ sizeLine := small_line (by rw [List.length_map]; omega)
          have fz : frz [6, 5] [.sh .ptr, .sh (kD l), .sh (.lst (made.map rowD)), s3, s4, .sh (rowD a), s6, s7, s8] = [.sh .ptr, .sh (kD l), .sh (.lst (made.map rowD)), s3, s4, .sh (rowD a), s6, s7, s8] := by
            rcases n6 with rfl | ⟨_, rfl⟩ <;> rfl
          try simp only [o_slot_sh, o_slot_own, o_var, o_c, o_op, o_un, o_nil, o_cons, o_consB, o_star, o_items_l, o_items_t, o_tup, o_lst, o_call, o_if, o_blOf, o_andV, o_orV, o_notV, o_test, o_and, o_or, o_not, o_truth, o_yes, o_chain, o_own, o_pos, o_kw, o_asObj, o_meth, o_cm, o_prop, o_sl, o_nth, o_make, o_tagO_t, o_tagO_f, o_slice, o_no, o_so, o_intOf, o_isi, o_fmt, o_js_nil, o_js_cons, o_m1, o_call1, o_next, o_seq, o_break, o_cont, o_ret, o_retN, o_drop, o_ifS, o_set, o_asg, o_put_p, o_put_f, o_put_b, o_leak_p, o_leak_f, o_leak_b, o_for, o_loop_nil, o_gN, o_gT, o_gL, o_gsNil, o_gsCons, o_any, o_enum, o_range1, o_range2, o_lc, o_lcL_nil, o_rev, o_turn, o_ownIn, o_sWr, o_sPut, o_sNever, o_kd_nx, o_kd_rt, o_kd_ex, o_frOf_p, o_frOf_f, o_frOf_b, List.getElem?_cons_zero, List.getElem?_cons_succ, List.map_cons, List.map_nil, List.cons_append, List.nil_append, List.append_nil, List.length_cons, List.length_nil, List.set_cons_zero, List.set_cons_succ, List.replicate, Nat.sub_self, Nat.zero_add, Nat.reduceAdd, Nat.reduceSub, if_true, if_false, Bool.false_eq_true, Bool.not_true, Bool.not_false, true_and, and_true, reduceIte, startE, Option.some.injEq, Sl.sh.injEq, Sl.own.injEq, o_nilT, o_consT, o_par, setD, unB, o_aug, o_augI, o_hN, o_hSub, o_hsNil, o_hsCons, o_hT, o_asgH, o_wrPop, o_dic, o_asT, v_asT_z, v_asT_t, v_asT_i, v_asT_l, o_methR, o_opR, o_ni, hz, fz, wipeE]
          refine lcL_filter rowD rowD (fun b => decide (b = a)) (fun b hbm R N hR hN => ?_) ?_
          · have gb := hgm b hbm
            have ds : decide (some a = some b) = decide (b = a) := decide_eq_decide.mpr ⟨fun e => (Option.some.inj e).symm, fun e => by rw [e]⟩
            try simp only [o_slot_sh, o_slot_own, o_var, o_c, o_op, o_un, o_nil, o_cons, o_consB, o_star, o_items_l, o_items_t, o_tup, o_lst, o_call, o_if, o_blOf, o_andV, o_orV, o_notV, o_test, o_and, o_or, o_not, o_truth, o_yes, o_chain, o_own, o_pos, o_kw, o_asObj, o_meth, o_cm, o_prop, o_sl, o_nth, o_make, o_tagO_t, o_tagO_f, o_slice, o_no, o_so, o_intOf, o_isi, o_fmt, o_js_nil, o_js_cons, o_m1, o_call1, o_next, o_seq, o_break, o_cont, o_ret, o_retN, o_drop, o_ifS, o_set, o_asg, o_put_p, o_put_f, o_put_b, o_leak_p, o_leak_f, o_leak_b, o_for, o_loop_nil, o_gN, o_gT, o_gL, o_gsNil, o_gsCons, o_any, o_enum, o_range1, o_range2, o_lc, o_lcL_nil, o_rev, o_turn, o_ownIn, o_sWr, o_sPut, o_sNever, o_kd_nx, o_kd_rt, o_kd_ex, o_frOf_p, o_frOf_f, o_frOf_b, List.getElem?_cons_zero, List.getElem?_cons_succ, List.map_cons, List.map_nil, List.cons_append, List.nil_append, List.append_nil, List.length_cons, List.length_nil, List.set_cons_zero, List.set_cons_succ, List.replicate, Nat.sub_self, Nat.zero_add, Nat.reduceAdd, Nat.reduceSub, if_true, if_false, Bool.false_eq_true, Bool.not_true, Bool.not_false, true_and, and_true, reduceIte, startE, Option.some.injEq, Sl.sh.injEq, Sl.own.injEq, o_nilT, o_consT, o_par, setD, unB, o_aug, o_augI, o_hN, o_hSub, o_hsNil, o_hsCons, o_hT, o_asgH, o_wrPop, o_dic, o_asT, v_asT_z, v_asT_t, v_asT_i, v_asT_l, o_methR, o_opR, o_ni, Nat.reduceLT, Nat.lt_add_one, rowD, spOq, eqS]
            refine ⟨rfl, b, _, some a, rfl, gb.ok, ⟨a, rfl, rfl, ga.ok⟩, ?_⟩
            try simp only [o_slot_sh, o_slot_own, o_var, o_c, o_op, o_un, o_nil, o_cons, o_consB, o_star, o_items_l, o_items_t, o_tup, o_lst, o_call, o_if, o_blOf, o_andV, o_orV, o_notV, o_test, o_and, o_or, o_not, o_truth, o_yes, o_chain, o_own, o_pos, o_kw, o_asObj, o_meth, o_cm, o_prop, o_sl, o_nth, o_make, o_tagO_t, o_tagO_f, o_slice, o_no, o_so, o_intOf, o_isi, o_fmt, o_js_nil, o_js_cons, o_m1, o_call1, o_next, o_seq, o_break, o_cont, o_ret, o_retN, o_drop, o_ifS, o_set, o_asg, o_put_p, o_put_f, o_put_b, o_leak_p, o_leak_f, o_leak_b, o_for, o_loop_nil, o_gN, o_gT, o_gL, o_gsNil, o_gsCons, o_any, o_enum, o_range1, o_range2, o_lc, o_lcL_nil, o_rev, o_turn, o_ownIn, o_sWr, o_sPut, o_sNever, o_kd_nx, o_kd_rt, o_kd_ex, o_frOf_p, o_frOf_f, o_frOf_b, List.getElem?_cons_zero, List.getElem?_cons_succ, List.map_cons, List.map_nil, List.cons_append, List.nil_append, List.append_nil, List.length_cons, List.length_nil, List.set_cons_zero, List.set_cons_succ, List.replicate, Nat.sub_self, Nat.zero_add, Nat.reduceAdd, Nat.reduceSub, if_true, if_false, Bool.false_eq_true, Bool.not_true, Bool.not_false, true_and, and_true, reduceIte, startE, Option.some.injEq, Sl.sh.injEq, Sl.own.injEq, o_nilT, o_consT, o_par, setD, unB, o_aug, o_augI, o_hN, o_hSub, o_hsNil, o_hsCons, o_hT, o_asgH, o_wrPop, o_dic, o_asT, v_asT_z, v_asT_t, v_asT_i, v_asT_l, o_methR, o_opR, o_ni, ds]
            have sy : decide (a = b) = decide (b = a) := decide_eq_decide.mpr ⟨fun e => e.symm, fun e => e.symm⟩
            try simp only [o_slot_sh, o_slot_own, o_var, o_c, o_op, o_un, o_nil, o_cons, o_consB, o_star, o_items_l, o_items_t, o_tup, o_lst, o_call, o_if, o_blOf, o_andV, o_orV, o_notV, o_test, o_and, o_or, o_not, o_truth, o_yes, o_chain, o_own, o_pos, o_kw, o_asObj, o_meth, o_cm, o_prop, o_sl, o_nth, o_make, o_tagO_t, o_tagO_f, o_slice, o_no, o_so, o_intOf, o_isi, o_fmt, o_js_nil, o_js_cons, o_m1, o_call1, o_next, o_seq, o_break, o_cont, o_ret, o_retN, o_drop, o_ifS, o_set, o_asg, o_put_p, o_put_f, o_put_b, o_leak_p, o_leak_f, o_leak_b, o_for, o_loop_nil, o_gN, o_gT, o_gL, o_gsNil, o_gsCons, o_any, o_enum, o_range1, o_range2, o_lc, o_lcL_nil, o_rev, o_turn, o_ownIn, o_sWr, o_sPut, o_sNever, o_kd_nx, o_kd_rt, o_kd_ex, o_frOf_p, o_frOf_f, o_frOf_b, List.getElem?_cons_zero, List.getElem?_cons_succ, List.map_cons, List.map_nil, List.cons_append, List.nil_append, List.append_nil, List.length_cons, List.length_nil, List.set_cons_zero, List.set_cons_succ, List.replicate, Nat.sub_self, Nat.zero_add, Nat.reduceAdd, Nat.reduceSub, if_true, if_false, Bool.false_eq_true, Bool.not_true, Bool.not_false, true_and, and_true, reduceIte, startE, Option.some.injEq, Sl.sh.injEq, Sl.own.injEq, o_nilT, o_consT, o_par, setD, unB, o_aug, o_augI, o_hN, o_hSub, o_hsNil, o_hsCons, o_hT, o_asgH, o_wrPop, o_dic, o_asT, v_asT_z, v_asT_t, v_asT_i, v_asT_l, o_methR, o_opR, o_ni, sy]
            cases e : decide (b = a)
            · have := hN e
              try simp only [o_slot_sh, o_slot_own, o_var, o_c, o_op, o_un, o_nil, o_cons, o_consB, o_star, o_items_l, o_items_t, o_tup, o_lst, o_call, o_if, o_blOf, o_andV, o_orV, o_notV, o_test, o_and, o_or, o_not, o_truth, o_yes, o_chain, o_own, o_pos, o_kw, o_asObj, o_meth, o_cm, o_prop, o_sl, o_nth, o_make, o_tagO_t, o_tagO_f, o_slice, o_no, o_so, o_intOf, o_isi, o_fmt, o_js_nil, o_js_cons, o_m1, o_call1, o_next, o_seq, o_break, o_cont, o_ret, o_retN, o_drop, o_ifS, o_set, o_asg, o_put_p, o_put_f, o_put_b, o_leak_p, o_leak_f, o_leak_b, o_for, o_loop_nil, o_gN, o_gT, o_gL, o_gsNil, o_gsCons, o_any, o_enum, o_range1, o_range2, o_lc, o_lcL_nil, o_rev, o_turn, o_ownIn, o_sWr, o_sPut, o_sNever, o_kd_nx, o_kd_rt, o_kd_ex, o_frOf_p, o_frOf_f, o_frOf_b, List.getElem?_cons_zero, List.getElem?_cons_succ, List.map_cons, List.map_nil, List.cons_append, List.nil_append, List.append_nil, List.length_cons, List.length_nil, List.set_cons_zero, List.set_cons_succ, List.replicate, Nat.sub_self, Nat.zero_add, Nat.reduceAdd, Nat.reduceSub, if_true, if_false, Bool.false_eq_true, Bool.not_true, Bool.not_false, true_and, and_true, reduceIte, startE, Option.some.injEq, Sl.sh.injEq, Sl.own.injEq, o_nilT, o_consT, o_par, setD, unB, o_aug, o_augI, o_hN, o_hSub, o_hsNil, o_hsCons, o_hT, o_asgH, o_wrPop, o_dic, o_asT, v_asT_z, v_asT_t, v_asT_i, v_asT_l, o_methR, o_opR, o_ni, wipeE]
              exact this
            · have := hR e
              try simp only [o_slot_sh, o_slot_own, o_var, o_c, o_op, o_un, o_nil, o_cons, o_consB, o_star, o_items_l, o_items_t, o_tup, o_lst, o_call, o_if, o_blOf, o_andV, o_orV, o_notV, o_test, o_and, o_or, o_not, o_truth, o_yes, o_chain, o_own, o_pos, o_kw, o_asObj, o_meth, o_cm, o_prop, o_sl, o_nth, o_make, o_tagO_t, o_tagO_f, o_slice, o_no, o_so, o_intOf, o_isi, o_fmt, o_js_nil, o_js_cons, o_m1, o_call1, o_next, o_seq, o_break, o_cont, o_ret, o_retN, o_drop, o_ifS, o_set, o_asg, o_put_p, o_put_f, o_put_b, o_leak_p, o_leak_f, o_leak_b, o_for, o_loop_nil, o_gN, o_gT, o_gL, o_gsNil, o_gsCons, o_any, o_enum, o_range1, o_range2, o_lc, o_lcL_nil, o_rev, o_turn, o_ownIn, o_sWr, o_sPut, o_sNever, o_kd_nx, o_kd_rt, o_kd_ex, o_frOf_p, o_frOf_f, o_frOf_b, List.getElem?_cons_zero, List.getElem?_cons_succ, List.map_cons, List.map_nil, List.cons_append, List.nil_append, List.append_nil, List.length_cons, List.length_nil, List.set_cons_zero, List.set_cons_succ, List.replicate, Nat.sub_self, Nat.zero_add, Nat.reduceAdd, Nat.reduceSub, if_true, if_false, Bool.false_eq_true, Bool.not_true, Bool.not_false, true_and, and_true, reduceIte, startE, Option.some.injEq, Sl.sh.injEq, Sl.own.injEq, o_nilT, o_consT, o_par, setD, unB, o_aug, o_augI, o_hN, o_hSub, o_hsNil, o_hsCons, o_hT, o_asgH, o_wrPop, o_dic, o_asT, v_asT_z, v_asT_t, v_asT_i, v_asT_l, o_methR, o_opR, o_ni, wipeE]
              exact this
          · have ne : ¬ (((made.filter fun b => decide (b = a)).length : Nat) : Int) < 1 := by
              have : a ∈ made.filter fun b => decide (b = a) := List.mem_filter.mpr ⟨ham, by simp⟩
              have := List.length_pos_of_mem this
              omega
            try simp only [o_slot_sh, o_slot_own, o_var, o_c, o_op, o_un, o_nil, o_cons, o_consB, o_star, o_items_l, o_items_t, o_tup, o_lst, o_call, o_if, o_blOf, o_andV, o_orV, o_notV, o_test, o_and, o_or, o_not, o_truth, o_yes, o_chain, o_own, o_pos, o_kw, o_asObj, o_meth, o_cm, o_prop, o_sl, o_nth, o_make, o_tagO_t, o_tagO_f, o_slice, o_no, o_so, o_intOf, o_isi, o_fmt, o_js_nil, o_js_cons, o_m1, o_call1, o_next, o_seq, o_break, o_cont, o_ret, o_retN, o_drop, o_ifS, o_set, o_asg, o_put_p, o_put_f, o_put_b, o_leak_p, o_leak_f, o_leak_b, o_for, o_loop_nil, o_gN, o_gT, o_gL, o_gsNil, o_gsCons, o_any, o_enum, o_range1, o_range2, o_lc, o_lcL_nil, o_rev, o_turn, o_ownIn, o_sWr, o_sPut, o_sNever, o_kd_nx, o_kd_rt, o_kd_ex, o_frOf_p, o_frOf_f, o_frOf_b, List.getElem?_cons_zero, List.getElem?_cons_succ, List.map_cons, List.map_nil, List.cons_append, List.nil_append, List.append_nil, List.length_cons, List.length_nil, List.set_cons_zero, List.set_cons_succ, List.replicate, Nat.sub_self, Nat.zero_add, Nat.reduceAdd, Nat.reduceSub, if_true, if_false, Bool.false_eq_true, Bool.not_true, Bool.not_false, true_and, and_true, reduceIte, startE, Option.some.injEq, Sl.sh.injEq, Sl.own.injEq, o_nilT, o_consT, o_par, setD, unB, o_aug, o_augI, o_hN, o_hSub, o_hsNil, o_hsCons, o_hT, o_asgH, o_wrPop, o_dic, o_asT, v_asT_z, v_asT_t, v_asT_i, v_asT_l, o_methR, o_opR, o_ni, v_lenl, List.length_map, v_ord, ne, decide_false]
            repeat refine ⟨rfl, ?_⟩
            refine ⟨made.map fun a => [kD a], by rw [← rows_obj], ?_⟩
            rw [← rows_obj]
            refine inO_row ga.ok ?_ ham hgm
            try simp only [o_slot_sh, o_slot_own, o_var, o_c, o_op, o_un, o_nil, o_cons, o_consB, o_star, o_items_l, o_items_t, o_tup, o_lst, o_call, o_if, o_blOf, o_andV, o_orV, o_notV, o_test, o_and, o_or, o_not, o_truth, o_yes, o_chain, o_own, o_pos, o_kw, o_asObj, o_meth, o_cm, o_prop, o_sl, o_nth, o_make, o_tagO_t, o_tagO_f, o_slice, o_no, o_so, o_intOf, o_isi, o_fmt, o_js_nil, o_js_cons, o_m1, o_call1, o_next, o_seq, o_break, o_cont, o_ret, o_retN, o_drop, o_ifS, o_set, o_asg, o_put_p, o_put_f, o_put_b, o_leak_p, o_leak_f, o_leak_b, o_for, o_loop_nil, o_gN, o_gT, o_gL, o_gsNil, o_gsCons, o_any, o_enum, o_range1, o_range2, o_lc, o_lcL_nil, o_rev, o_turn, o_ownIn, o_sWr, o_sPut, o_sNever, o_kd_nx, o_kd_rt, o_kd_ex, o_frOf_p, o_frOf_f, o_frOf_b, List.getElem?_cons_zero, List.getElem?_cons_succ, List.map_cons, List.map_nil, List.cons_append, List.nil_append, List.append_nil, List.length_cons, List.length_nil, List.set_cons_zero, List.set_cons_succ, List.replicate, Nat.sub_self, Nat.zero_add, Nat.reduceAdd, Nat.reduceSub, if_true, if_false, Bool.false_eq_true, Bool.not_true, Bool.not_false, true_and, and_true, reduceIte, startE, Option.some.injEq, Sl.sh.injEq, Sl.own.injEq, o_nilT, o_consT, o_par, setD, unB, o_aug, o_augI, o_hN, o_hSub, o_hsNil, o_hsCons, o_hT, o_asgH, o_wrPop, o_dic, o_asT, v_asT_z, v_asT_t, v_asT_i, v_asT_l, o_methR, o_opR, o_ni]
            exact next _ ⟨_, _, _, _, _, _, rfl, n6⟩
    · obtain ⟨s3, s4, s5, s6, s7, s8, rfl, n6⟩ := h
      obtain ⟨rest, rfl⟩ : ∃ rest, made = l :: rest := by
        cases made with
        | nil => cases hm0
        | cons a b => exact ⟨b, by simp only [List.getElem?_cons_zero, Option.some.injEq] at hm0; rw [hm0]⟩
      have t2 := tame_kD hl.ok
      have d2 : dep (kD l) ≤ 60 := by have := dep_kD l; omega
      have w2 : shW (kD l) ≤ sizeLine := small_line (by have := shW_kD l; have := hl.len; omega)
      have so := strOk_sh t2
      have e1 : (shD (kD l) == shD (kD l)) = true := by simp
      refine hK6 _ ?_
      try simp only [o_slot_sh, o_slot_own, o_var, o_c, o_op, o_un, o_nil, o_cons, o_consB, o_star, o_items_l, o_items_t, o_tup, o_lst, o_call, o_if, o_blOf, o_andV, o_orV, o_notV, o_test, o_and, o_or, o_not, o_truth, o_yes, o_chain, o_own, o_pos, o_kw, o_asObj, o_meth, o_cm, o_prop, o_sl, o_nth, o_make, o_tagO_t, o_tagO_f, o_slice, o_no, o_so, o_intOf, o_isi, o_fmt, o_js_nil, o_js_cons, o_m1, o_call1, o_next, o_seq, o_break, o_cont, o_ret, o_retN, o_drop, o_ifS, o_set, o_asg, o_put_p, o_put_f, o_put_b, o_leak_p, o_leak_f, o_leak_b, o_for, o_loop_nil, o_gN, o_gT, o_gL, o_gsNil, o_gsCons, o_any, o_enum, o_range1, o_range2, o_lc, o_lcL_nil, o_rev, o_turn, o_ownIn, o_sWr, o_sPut, o_sNever, o_kd_nx, o_kd_rt, o_kd_ex, o_frOf_p, o_frOf_f, o_frOf_b, List.getElem?_cons_zero, List.getElem?_cons_succ, List.map_cons, List.map_nil, List.cons_append, List.nil_append, List.append_nil, List.length_cons, List.length_nil, List.set_cons_zero, List.set_cons_succ, List.replicate, Nat.sub_self, Nat.zero_add, Nat.reduceAdd, Nat.reduceSub, if_true, if_false, Bool.false_eq_true, Bool.not_true, Bool.not_false, true_and, and_true, reduceIte, startE, frz, frz1, wipeE, Option.some.injEq, Sl.sh.injEq, Sl.own.injEq, o_nilT, o_consT, o_par, setD, unB, o_aug, o_augI, o_hN, o_hSub, o_hsNil, o_hsCons, o_hT, o_asgH, o_wrPop, o_dic, o_asT, v_asT_z, v_asT_t, v_asT_i, v_asT_l, o_methR, o_opR, o_ni, v_ixl0, rowD]
      refine ⟨_, rfl, ?_⟩
      try simp only [o_slot_sh, o_slot_own, o_var, o_c, o_op, o_un, o_nil, o_cons, o_consB, o_star, o_items_l, o_items_t, o_tup, o_lst, o_call, o_if, o_blOf, o_andV, o_orV, o_notV, o_test, o_and, o_or, o_not, o_truth, o_yes, o_chain, o_own, o_pos, o_kw, o_asObj, o_meth, o_cm, o_prop, o_sl, o_nth, o_make, o_tagO_t, o_tagO_f, o_slice, o_no, o_so, o_intOf, o_isi, o_fmt, o_js_nil, o_js_cons, o_m1, o_call1, o_next, o_seq, o_break, o_cont, o_ret, o_retN, o_drop, o_ifS, o_set, o_asg, o_put_p, o_put_f, o_put_b, o_leak_p, o_leak_f, o_leak_b, o_for, o_loop_nil, o_gN, o_gT, o_gL, o_gsNil, o_gsCons, o_any, o_enum, o_range1, o_range2, o_lc, o_lcL_nil, o_rev, o_turn, o_ownIn, o_sWr, o_sPut, o_sNever, o_kd_nx, o_kd_rt, o_kd_ex, o_frOf_p, o_frOf_f, o_frOf_b, List.getElem?_cons_zero, List.getElem?_cons_succ, List.map_cons, List.map_nil, List.cons_append, List.nil_append, List.append_nil, List.length_cons, List.length_nil, List.set_cons_zero, List.set_cons_succ, List.replicate, Nat.sub_self, Nat.zero_add, Nat.reduceAdd, Nat.reduceSub, if_true, if_false, Bool.false_eq_true, Bool.not_true, Bool.not_false, true_and, and_true, reduceIte, startE, frz, frz1, wipeE, Option.some.injEq, Sl.sh.injEq, Sl.own.injEq, o_nilT, o_consT, o_par, setD, unB, o_aug, o_augI, o_hN, o_hSub, o_hsNil, o_hsCons, o_hT, o_asgH, o_wrPop, o_dic, o_asT, v_asT_z, v_asT_t, v_asT_i, v_asT_l, o_methR, o_opR, o_ni, v_repr t2 d2 w2, v_eqs so so, e1]
      exact q

def sp__law_begun : Sps := fun ds Qd _ => ∃ (ns : List Int) (t : Int), ds = [.scr ns, .int t] ∧ 0 ≤ t ∧ (∀ z ∈ ns, Builtin.Int.intBits z ≤ 1048576) ∧ ∀ a b : Int, 0 ≤ a → 0 ≤ b → b < 2147483648 → Qd (.lst [.int a, .int b, .int 0]) true
def r__law_begun (T : Tx) : RS :=
  (sSeq (sSet 2 (dIf (dTest (dOp fLt (dVar 1) (dCall fLen (dConsB (dVar 0) dNil)))) (dOp fIxA (dVar 0) (dVar 1)) (dC (.int 0)))) (sSeq (sSet 3 (dOp fAdd (dC (.int 60013)) (dOp fMul (dC (.int 7727)) (dVar 1)))) (sSeq (sFor (iAny (dSlice fSlice (dVar 0) oNo (oSo (dC (.int 6))))) (gN 4) (sSeq (sSet 3 (dOp fMod (dCall fInt (dConsB (dOp fAdd (dOp fAdd (dOp fMul (dVar 3) (dC (.int 30269))) (dOp fMul (dVar 4) (dC (.int 7)))) (dC (.int 13))) dNil)) (dC (.int 2147483629)))) sNext)) (sSeq (sRet (dLst (dCons (dIf (dOr (dTest (dOp fLt (dVar 2) (dC (.int 0)))) (dTest (dOp fGe (dVar 2) (dOp fPow (dC (.int 10)) (dC (.int 18)))))) (dCall fAbs (dConsB (dVar 2) dNil)) (dC (.int 0))) (dCons (dOp fMod (dCall fInt (dConsB (dOp fAdd (dOp fAdd (dOp fMul (dVar 3) (dC (.int 53))) (dOp fMul (dVar 2) (dVar 2))) (dOp fMul (dC (.int 17)) (dVar 1))) dNil)) (dC (.int 2147483629))) (dCons (dC (.int 0)) dNil))))) sNext))))
theorem pure__law_begun (T : Tx) : ∀ ds Qd xd, ds.length = 2 → sp__law_begun ds Qd xd → r__law_begun T (kdOf Qd xd) (startE (["script", "turn", "own", "state", "cell"] : List Str) ds) := by
  rintro _ Qd xd _ ⟨ns, t, rfl, h0, hb, q⟩
  have z3 : (3 : Nat) ≤ sizeLine := by decide
  have m1 : ∀ i, IntMulOk 7727 i := fun i => IntMulOk.of_left (by decide)
  have m2 : ∀ i, IntMulOk i 30269 := fun i => IntMulOk.of_right (by decide)
  have m3 : ∀ i, IntMulOk i 7 := fun i => IntMulOk.of_right (by decide)
  have m4 : ∀ i, IntMulOk i 53 := fun i => IntMulOk.of_right (by decide)
  have m5 : ∀ i, IntMulOk 17 i := fun i => IntMulOk.of_left (by decide)
  have p1 : (0 : Int) < 2147483629 := by decide
  by_cases h : t < (ns.length : Int)
  case pos =>
    have ht : decide (t < (ns.length : Int)) = true := decide_eq_true h
    obtain ⟨own, hat, ho⟩ : ∃ own, atI ns t = some own ∧ Builtin.Int.intBits own ≤ 1048576 := by
      obtain ⟨j, rfl⟩ := Int.eq_ofNat_of_zero_le h0
      have hj : j < ns.length := by omega
      exact ⟨ns[j], by rw [atI_get]; exact List.getElem?_eq_getElem hj, hb _ (List.getElem_mem hj)⟩
    simp only [r__law_begun, o_slot_sh, o_slot_own, o_var, o_c, o_op, o_un, o_nil, o_cons, o_consB, o_star, o_items_l, o_items_t, o_tup, o_lst, o_call, o_if, o_blOf, o_andV, o_orV, o_notV, o_test, o_and, o_or, o_not, o_truth, o_yes, o_chain, o_own, o_pos, o_kw, o_asObj, o_meth, o_cm, o_prop, o_sl, o_nth, o_make, o_tagO_t, o_tagO_f, o_slice, o_no, o_so, o_intOf, o_isi, o_fmt, o_js_nil, o_js_cons, o_m1, o_call1, o_next, o_seq, o_break, o_cont, o_ret, o_retN, o_drop, o_ifS, o_set, o_asg, o_put_p, o_put_f, o_put_b, o_leak_p, o_leak_f, o_leak_b, o_for, o_loop_nil, o_gN, o_gT, o_gL, o_gsNil, o_gsCons, o_any, o_enum, o_range1, o_range2, o_lc, o_lcL_nil, o_rev, o_turn, o_ownIn, o_sWr, o_sPut, o_sNever, o_kd_nx, o_kd_rt, o_kd_ex, o_frOf_p, o_frOf_f, o_frOf_b, List.getElem?_cons_zero, List.getElem?_cons_succ, List.map_cons, List.map_nil, List.cons_append, List.nil_append, List.append_nil, List.length_cons, List.length_nil, List.set_cons_zero, List.set_cons_succ, List.replicate, Nat.sub_self, Nat.zero_add, Nat.reduceAdd, Nat.reduceSub, if_true, if_false, Bool.false_eq_true, Bool.not_true, Bool.not_false, true_and, and_true, reduceIte, startE, frz, frz1, wipeE, Option.some.injEq, Sl.sh.injEq, Sl.own.injEq, o_nilT, o_consT, o_par, setD, unB, o_aug, o_augI, o_hN, o_hSub, o_hsNil, o_hsCons, o_hT, o_asgH, o_wrPop, o_dic, o_asT, v_asT_z, v_asT_t, v_asT_i, v_asT_l, o_methR, o_opR, o_ni, v_ord, v_lensc, ht, v_ixs hat, v_mul (m1 _), v_addi, v_slices]
    refine loop_inv (fun i ρ => ∃ own st s4, ρ = [.sh (.scr ns), .sh (.int t), .sh (.int own), .sh (.int st), s4] ∧ Builtin.Int.intBits own ≤ 1048576) (n := 0) ⟨_, _, .no, rfl, ho⟩ (fun d hd i ρ K hi h next => ?_) (fun ρ h => ?_)
    · obtain ⟨own, st, s4, rfl, ho⟩ := h
      obtain ⟨z, _, rfl⟩ := List.mem_map.mp (cut_mem hd)
      simp only [o_slot_sh, o_slot_own, o_var, o_c, o_op, o_un, o_nil, o_cons, o_consB, o_star, o_items_l, o_items_t, o_tup, o_lst, o_call, o_if, o_blOf, o_andV, o_orV, o_notV, o_test, o_and, o_or, o_not, o_truth, o_yes, o_chain, o_own, o_pos, o_kw, o_asObj, o_meth, o_cm, o_prop, o_sl, o_nth, o_make, o_tagO_t, o_tagO_f, o_slice, o_no, o_so, o_intOf, o_isi, o_fmt, o_js_nil, o_js_cons, o_m1, o_call1, o_next, o_seq, o_break, o_cont, o_ret, o_retN, o_drop, o_ifS, o_set, o_asg, o_put_p, o_put_f, o_put_b, o_leak_p, o_leak_f, o_leak_b, o_for, o_loop_nil, o_gN, o_gT, o_gL, o_gsNil, o_gsCons, o_any, o_enum, o_range1, o_range2, o_lc, o_lcL_nil, o_rev, o_turn, o_ownIn, o_sWr, o_sPut, o_sNever, o_kd_nx, o_kd_rt, o_kd_ex, o_frOf_p, o_frOf_f, o_frOf_b, List.getElem?_cons_zero, List.getElem?_cons_succ, List.map_cons, List.map_nil, List.cons_append, List.nil_append, List.append_nil, List.length_cons, List.length_nil, List.set_cons_zero, List.set_cons_succ, List.replicate, Nat.sub_self, Nat.zero_add, Nat.reduceAdd, Nat.reduceSub, if_true, if_false, Bool.false_eq_true, Bool.not_true, Bool.not_false, true_and, and_true, reduceIte, startE, frz, frz1, wipeE, Option.some.injEq, Sl.sh.injEq, Sl.own.injEq, o_nilT, o_consT, o_par, setD, unB, o_aug, o_augI, o_hN, o_hSub, o_hsNil, o_hsCons, o_hT, o_asgH, o_wrPop, o_dic, o_asT, v_asT_z, v_asT_t, v_asT_i, v_asT_l, o_methR, o_opR, o_ni, Nat.reduceLT, Nat.lt_add_one, v_mul (m2 _), v_mul (m3 _), v_addi, v_inti, v_modi p1]
      exact next _ ⟨_, _, _, rfl, ho⟩
    · obtain ⟨own, st, s4, rfl, ho⟩ := h
      have p2 : (0 : Int) < 2147483629 := by decide
      have r1 := fun i : Int => Int.emod_nonneg i (b := 2147483629) (by decide)
      have r2 := fun i : Int => Int.emod_lt_of_pos i p2
      simp only [o_slot_sh, o_slot_own, o_var, o_c, o_op, o_un, o_nil, o_cons, o_consB, o_star, o_items_l, o_items_t, o_tup, o_lst, o_call, o_if, o_blOf, o_andV, o_orV, o_notV, o_test, o_and, o_or, o_not, o_truth, o_yes, o_chain, o_own, o_pos, o_kw, o_asObj, o_meth, o_cm, o_prop, o_sl, o_nth, o_make, o_tagO_t, o_tagO_f, o_slice, o_no, o_so, o_intOf, o_isi, o_fmt, o_js_nil, o_js_cons, o_m1, o_call1, o_next, o_seq, o_break, o_cont, o_ret, o_retN, o_drop, o_ifS, o_set, o_asg, o_put_p, o_put_f, o_put_b, o_leak_p, o_leak_f, o_leak_b, o_for, o_loop_nil, o_gN, o_gT, o_gL, o_gsNil, o_gsCons, o_any, o_enum, o_range1, o_range2, o_lc, o_lcL_nil, o_rev, o_turn, o_ownIn, o_sWr, o_sPut, o_sNever, o_kd_nx, o_kd_rt, o_kd_ex, o_frOf_p, o_frOf_f, o_frOf_b, List.getElem?_cons_zero, List.getElem?_cons_succ, List.map_cons, List.map_nil, List.cons_append, List.nil_append, List.append_nil, List.length_cons, List.length_nil, List.set_cons_zero, List.set_cons_succ, List.replicate, Nat.sub_self, Nat.zero_add, Nat.reduceAdd, Nat.reduceSub, if_true, if_false, Bool.false_eq_true, Bool.not_true, Bool.not_false, true_and, and_true, reduceIte, startE, frz, frz1, wipeE, Option.some.injEq, Sl.sh.injEq, Sl.own.injEq, o_nilT, o_consT, o_par, setD, unB, o_aug, o_augI, o_hN, o_hSub, o_hsNil, o_hsCons, o_hT, o_asgH, o_wrPop, o_dic, o_asT, v_asT_z, v_asT_t, v_asT_i, v_asT_l, o_methR, o_opR, o_ni, v_ord, v_p18, z3, v_mul (m4 _), v_mul (m5 _), v_mul (mul_bits ho ho), v_addi, v_inti, v_modi p1, fAbs]
      by_cases c1 : own < 0
      · simp only [c1, decide_true, o_slot_sh, o_slot_own, o_var, o_c, o_op, o_un, o_nil, o_cons, o_consB, o_star, o_items_l, o_items_t, o_tup, o_lst, o_call, o_if, o_blOf, o_andV, o_orV, o_notV, o_test, o_and, o_or, o_not, o_truth, o_yes, o_chain, o_own, o_pos, o_kw, o_asObj, o_meth, o_cm, o_prop, o_sl, o_nth, o_make, o_tagO_t, o_tagO_f, o_slice, o_no, o_so, o_intOf, o_isi, o_fmt, o_js_nil, o_js_cons, o_m1, o_call1, o_next, o_seq, o_break, o_cont, o_ret, o_retN, o_drop, o_ifS, o_set, o_asg, o_put_p, o_put_f, o_put_b, o_leak_p, o_leak_f, o_leak_b, o_for, o_loop_nil, o_gN, o_gT, o_gL, o_gsNil, o_gsCons, o_any, o_enum, o_range1, o_range2, o_lc, o_lcL_nil, o_rev, o_turn, o_ownIn, o_sWr, o_sPut, o_sNever, o_kd_nx, o_kd_rt, o_kd_ex, o_frOf_p, o_frOf_f, o_frOf_b, List.getElem?_cons_zero, List.getElem?_cons_succ, List.map_cons, List.map_nil, List.cons_append, List.nil_append, List.append_nil, List.length_cons, List.length_nil, List.set_cons_zero, List.set_cons_succ, List.replicate, Nat.sub_self, Nat.zero_add, Nat.reduceAdd, Nat.reduceSub, if_true, if_false, Bool.false_eq_true, Bool.not_true, Bool.not_false, true_and, and_true, reduceIte, startE, frz, frz1, wipeE, Option.some.injEq, Sl.sh.injEq, Sl.own.injEq, o_nilT, o_consT, o_par, setD, unB, o_aug, o_augI, o_hN, o_hSub, o_hsNil, o_hsCons, o_hT, o_asgH, o_wrPop, o_dic, o_asT, v_asT_z, v_asT_t, v_asT_i, v_asT_l, o_methR, o_opR, o_ni]
        exact q _ _ (by omega) (r1 _) (Int.lt_trans (r2 _) (by decide))
      · by_cases c2 : (10 : Int) ^ 18 ≤ own
        · simp only [c1, c2, decide_true, decide_false, o_slot_sh, o_slot_own, o_var, o_c, o_op, o_un, o_nil, o_cons, o_consB, o_star, o_items_l, o_items_t, o_tup, o_lst, o_call, o_if, o_blOf, o_andV, o_orV, o_notV, o_test, o_and, o_or, o_not, o_truth, o_yes, o_chain, o_own, o_pos, o_kw, o_asObj, o_meth, o_cm, o_prop, o_sl, o_nth, o_make, o_tagO_t, o_tagO_f, o_slice, o_no, o_so, o_intOf, o_isi, o_fmt, o_js_nil, o_js_cons, o_m1, o_call1, o_next, o_seq, o_break, o_cont, o_ret, o_retN, o_drop, o_ifS, o_set, o_asg, o_put_p, o_put_f, o_put_b, o_leak_p, o_leak_f, o_leak_b, o_for, o_loop_nil, o_gN, o_gT, o_gL, o_gsNil, o_gsCons, o_any, o_enum, o_range1, o_range2, o_lc, o_lcL_nil, o_rev, o_turn, o_ownIn, o_sWr, o_sPut, o_sNever, o_kd_nx, o_kd_rt, o_kd_ex, o_frOf_p, o_frOf_f, o_frOf_b, List.getElem?_cons_zero, List.getElem?_cons_succ, List.map_cons, List.map_nil, List.cons_append, List.nil_append, List.append_nil, List.length_cons, List.length_nil, List.set_cons_zero, List.set_cons_succ, List.replicate, Nat.sub_self, Nat.zero_add, Nat.reduceAdd, Nat.reduceSub, if_true, if_false, Bool.false_eq_true, Bool.not_true, Bool.not_false, true_and, and_true, reduceIte, startE, frz, frz1, wipeE, Option.some.injEq, Sl.sh.injEq, Sl.own.injEq, o_nilT, o_consT, o_par, setD, unB, o_aug, o_augI, o_hN, o_hSub, o_hsNil, o_hsCons, o_hT, o_asgH, o_wrPop, o_dic, o_asT, v_asT_z, v_asT_t, v_asT_i, v_asT_l, o_methR, o_opR, o_ni]
          exact q _ _ (by omega) (r1 _) (Int.lt_trans (r2 _) (by decide))
        · simp only [c1, c2, decide_false, o_slot_sh, o_slot_own, o_var, o_c, o_op, o_un, o_nil, o_cons, o_consB, o_star, o_items_l, o_items_t, o_tup, o_lst, o_call, o_if, o_blOf, o_andV, o_orV, o_notV, o_test, o_and, o_or, o_not, o_truth, o_yes, o_chain, o_own, o_pos, o_kw, o_asObj, o_meth, o_cm, o_prop, o_sl, o_nth, o_make, o_tagO_t, o_tagO_f, o_slice, o_no, o_so, o_intOf, o_isi, o_fmt, o_js_nil, o_js_cons, o_m1, o_call1, o_next, o_seq, o_break, o_cont, o_ret, o_retN, o_drop, o_ifS, o_set, o_asg, o_put_p, o_put_f, o_put_b, o_leak_p, o_leak_f, o_leak_b, o_for, o_loop_nil, o_gN, o_gT, o_gL, o_gsNil, o_gsCons, o_any, o_enum, o_range1, o_range2, o_lc, o_lcL_nil, o_rev, o_turn, o_ownIn, o_sWr, o_sPut, o_sNever, o_kd_nx, o_kd_rt, o_kd_ex, o_frOf_p, o_frOf_f, o_frOf_b, List.getElem?_cons_zero, List.getElem?_cons_succ, List.map_cons, List.map_nil, List.cons_append, List.nil_append, List.append_nil, List.length_cons, List.length_nil, List.set_cons_zero, List.set_cons_succ, List.replicate, Nat.sub_self, Nat.zero_add, Nat.reduceAdd, Nat.reduceSub, if_true, if_false, Bool.false_eq_true, Bool.not_true, Bool.not_false, true_and, and_true, reduceIte, startE, frz, frz1, wipeE, Option.some.injEq, Sl.sh.injEq, Sl.own.injEq, o_nilT, o_consT, o_par, setD, unB, o_aug, o_augI, o_hN, o_hSub, o_hsNil, o_hsCons, o_hT, o_asgH, o_wrPop, o_dic, o_asT, v_asT_z, v_asT_t, v_asT_i, v_asT_l, o_methR, o_opR, o_ni]
          exact q _ _ (by decide) (r1 _) (Int.lt_trans (r2 _) (by decide))
  case neg =>
    have ht : decide (t < (ns.length : Int)) = false := decide_eq_false h
    simp only [r__law_begun, o_slot_sh, o_slot_own, o_var, o_c, o_op, o_un, o_nil, o_cons, o_consB, o_star, o_items_l, o_items_t, o_tup, o_lst, o_call, o_if, o_blOf, o_andV, o_orV, o_notV, o_test, o_and, o_or, o_not, o_truth, o_yes, o_chain, o_own, o_pos, o_kw, o_asObj, o_meth, o_cm, o_prop, o_sl, o_nth, o_make, o_tagO_t, o_tagO_f, o_slice, o_no, o_so, o_intOf, o_isi, o_fmt, o_js_nil, o_js_cons, o_m1, o_call1, o_next, o_seq, o_break, o_cont, o_ret, o_retN, o_drop, o_ifS, o_set, o_asg, o_put_p, o_put_f, o_put_b, o_leak_p, o_leak_f, o_leak_b, o_for, o_loop_nil, o_gN, o_gT, o_gL, o_gsNil, o_gsCons, o_any, o_enum, o_range1, o_range2, o_lc, o_lcL_nil, o_rev, o_turn, o_ownIn, o_sWr, o_sPut, o_sNever, o_kd_nx, o_kd_rt, o_kd_ex, o_frOf_p, o_frOf_f, o_frOf_b, List.getElem?_cons_zero, List.getElem?_cons_succ, List.map_cons, List.map_nil, List.cons_append, List.nil_append, List.append_nil, List.length_cons, List.length_nil, List.set_cons_zero, List.set_cons_succ, List.replicate, Nat.sub_self, Nat.zero_add, Nat.reduceAdd, Nat.reduceSub, if_true, if_false, Bool.false_eq_true, Bool.not_true, Bool.not_false, true_and, and_true, reduceIte, startE, frz, frz1, wipeE, Option.some.injEq, Sl.sh.injEq, Sl.own.injEq, o_nilT, o_consT, o_par, setD, unB, o_aug, o_augI, o_hN, o_hSub, o_hsNil, o_hsCons, o_hT, o_asgH, o_wrPop, o_dic, o_asT, v_asT_z, v_asT_t, v_asT_i, v_asT_l, o_methR, o_opR, o_ni, v_ord, v_lensc, ht, v_mul (m1 _), v_addi, v_slices]
    refine loop_inv (fun i ρ => ∃ own st s4, ρ = [.sh (.scr ns), .sh (.int t), .sh (.int own), .sh (.int st), s4] ∧ Builtin.Int.intBits own ≤ 1048576) (n := 0) ⟨_, _, .no, rfl, by decide⟩ (fun d hd i ρ K hi h next => ?_) (fun ρ h => ?_)
    · obtain ⟨own, st, s4, rfl, ho⟩ := h
      obtain ⟨z, _, rfl⟩ := List.mem_map.mp (cut_mem hd)
      simp only [o_slot_sh, o_slot_own, o_var, o_c, o_op, o_un, o_nil, o_cons, o_consB, o_star, o_items_l, o_items_t, o_tup, o_lst, o_call, o_if, o_blOf, o_andV, o_orV, o_notV, o_test, o_and, o_or, o_not, o_truth, o_yes, o_chain, o_own, o_pos, o_kw, o_asObj, o_meth, o_cm, o_prop, o_sl, o_nth, o_make, o_tagO_t, o_tagO_f, o_slice, o_no, o_so, o_intOf, o_isi, o_fmt, o_js_nil, o_js_cons, o_m1, o_call1, o_next, o_seq, o_break, o_cont, o_ret, o_retN, o_drop, o_ifS, o_set, o_asg, o_put_p, o_put_f, o_put_b, o_leak_p, o_leak_f, o_leak_b, o_for, o_loop_nil, o_gN, o_gT, o_gL, o_gsNil, o_gsCons, o_any, o_enum, o_range1, o_range2, o_lc, o_lcL_nil, o_rev, o_turn, o_ownIn, o_sWr, o_sPut, o_sNever, o_kd_nx, o_kd_rt, o_kd_ex, o_frOf_p, o_frOf_f, o_frOf_b, List.getElem?_cons_zero, List.getElem?_cons_succ, List.map_cons, List.map_nil, List.cons_append, List.nil_append, List.append_nil, List.length_cons, List.length_nil, List.set_cons_zero, List.set_cons_succ, List.replicate, Nat.sub_self, Nat.zero_add, Nat.reduceAdd, Nat.reduceSub, if_true, if_false, Bool.false_eq_true, Bool.not_true, Bool.not_false, true_and, and_true, reduceIte, startE, frz, frz1, wipeE, Option.some.injEq, Sl.sh.injEq, Sl.own.injEq, o_nilT, o_consT, o_par, setD, unB, o_aug, o_augI, o_hN, o_hSub, o_hsNil, o_hsCons, o_hT, o_asgH, o_wrPop, o_dic, o_asT, v_asT_z, v_asT_t, v_asT_i, v_asT_l, o_methR, o_opR, o_ni, Nat.reduceLT, Nat.lt_add_one, v_mul (m2 _), v_mul (m3 _), v_addi, v_inti, v_modi p1]
      exact next _ ⟨_, _, _, rfl, ho⟩
    · obtain ⟨own, st, s4, rfl, ho⟩ := h
      have p2 : (0 : Int) < 2147483629 := by decide
      have r1 := fun i : Int => Int.emod_nonneg i (b := 2147483629) (by decide)
      have r2 := fun i : Int => Int.emod_lt_of_pos i p2
      simp only [o_slot_sh, o_slot_own, o_var, o_c, o_op, o_un, o_nil, o_cons, o_consB, o_star, o_items_l, o_items_t, o_tup, o_lst, o_call, o_if, o_blOf, o_andV, o_orV, o_notV, o_test, o_and, o_or, o_not, o_truth, o_yes, o_chain, o_own, o_pos, o_kw, o_asObj, o_meth, o_cm, o_prop, o_sl, o_nth, o_make, o_tagO_t, o_tagO_f, o_slice, o_no, o_so, o_intOf, o_isi, o_fmt, o_js_nil, o_js_cons, o_m1, o_call1, o_next, o_seq, o_break, o_cont, o_ret, o_retN, o_drop, o_ifS, o_set, o_asg, o_put_p, o_put_f, o_put_b, o_leak_p, o_leak_f, o_leak_b, o_for, o_loop_nil, o_gN, o_gT, o_gL, o_gsNil, o_gsCons, o_any, o_enum, o_range1, o_range2, o_lc, o_lcL_nil, o_rev, o_turn, o_ownIn, o_sWr, o_sPut, o_sNever, o_kd_nx, o_kd_rt, o_kd_ex, o_frOf_p, o_frOf_f, o_frOf_b, List.getElem?_cons_zero, List.getElem?_cons_succ, List.map_cons, List.map_nil, List.cons_append, List.nil_append, List.append_nil, List.length_cons, List.length_nil, List.set_cons_zero, List.set_cons_succ, List.replicate, Nat.sub_self, Nat.zero_add, Nat.reduceAdd, Nat.reduceSub, if_true, if_false, Bool.false_eq_true, Bool.not_true, Bool.not_false, true_and, and_true, reduceIte, startE, frz, frz1, wipeE, Option.some.injEq, Sl.sh.injEq, Sl.own.injEq, o_nilT, o_consT, o_par, setD, unB, o_aug, o_augI, o_hN, o_hSub, o_hsNil, o_hsCons, o_hT, o_asgH, o_wrPop, o_dic, o_asT, v_asT_z, v_asT_t, v_asT_i, v_asT_l, o_methR, o_opR, o_ni, v_ord, v_p18, z3, v_mul (m4 _), v_mul (m5 _), v_mul (mul_bits ho ho), v_addi, v_inti, v_modi p1, fAbs]
      by_cases c1 : own < 0
      · simp only [c1, decide_true, o_slot_sh, o_slot_own, o_var, o_c, o_op, o_un, o_nil, o_cons, o_consB, o_star, o_items_l, o_items_t, o_tup, o_lst, o_call, o_if, o_blOf, o_andV, o_orV, o_notV, o_test, o_and, o_or, o_not, o_truth, o_yes, o_chain, o_own, o_pos, o_kw, o_asObj, o_meth, o_cm, o_prop, o_sl, o_nth, o_make, o_tagO_t, o_tagO_f, o_slice, o_no, o_so, o_intOf, o_isi, o_fmt, o_js_nil, o_js_cons, o_m1, o_call1, o_next, o_seq, o_break, o_cont, o_ret, o_retN, o_drop, o_ifS, o_set, o_asg, o_put_p, o_put_f, o_put_b, o_leak_p, o_leak_f, o_leak_b, o_for, o_loop_nil, o_gN, o_gT, o_gL, o_gsNil, o_gsCons, o_any, o_enum, o_range1, o_range2, o_lc, o_lcL_nil, o_rev, o_turn, o_ownIn, o_sWr, o_sPut, o_sNever, o_kd_nx, o_kd_rt, o_kd_ex, o_frOf_p, o_frOf_f, o_frOf_b, List.getElem?_cons_zero, List.getElem?_cons_succ, List.map_cons, List.map_nil, List.cons_append, List.nil_append, List.append_nil, List.length_cons, List.length_nil, List.set_cons_zero, List.set_cons_succ, List.replicate, Nat.sub_self, Nat.zero_add, Nat.reduceAdd, Nat.reduceSub, if_true, if_false, Bool.false_eq_true, Bool.not_true, Bool.not_false, true_and, and_true, reduceIte, startE, frz, frz1, wipeE, Option.some.injEq, Sl.sh.injEq, Sl.own.injEq, o_nilT, o_consT, o_par, setD, unB, o_aug, o_augI, o_hN, o_hSub, o_hsNil, o_hsCons, o_hT, o_asgH, o_wrPop, o_dic, o_asT, v_asT_z, v_asT_t, v_asT_i, v_asT_l, o_methR, o_opR, o_ni]
        exact q _ _ (by omega) (r1 _) (Int.lt_trans (r2 _) (by decide))
      · by_cases c2 : (10 : Int) ^ 18 ≤ own
        · simp only [c1, c2, decide_true, decide_false, o_slot_sh, o_slot_own, o_var, o_c, o_op, o_un, o_nil, o_cons, o_consB, o_star, o_items_l, o_items_t, o_tup, o_lst, o_call, o_if, o_blOf, o_andV, o_orV, o_notV, o_test, o_and, o_or, o_not, o_truth, o_yes, o_chain, o_own, o_pos, o_kw, o_asObj, o_meth, o_cm, o_prop, o_sl, o_nth, o_make, o_tagO_t, o_tagO_f, o_slice, o_no, o_so, o_intOf, o_isi, o_fmt, o_js_nil, o_js_cons, o_m1, o_call1, o_next, o_seq, o_break, o_cont, o_ret, o_retN, o_drop, o_ifS, o_set, o_asg, o_put_p, o_put_f, o_put_b, o_leak_p, o_leak_f, o_leak_b, o_for, o_loop_nil, o_gN, o_gT, o_gL, o_gsNil, o_gsCons, o_any, o_enum, o_range1, o_range2, o_lc, o_lcL_nil, o_rev, o_turn, o_ownIn, o_sWr, o_sPut, o_sNever, o_kd_nx, o_kd_rt, o_kd_ex, o_frOf_p, o_frOf_f, o_frOf_b, List.getElem?_cons_zero, List.getElem?_cons_succ, List.map_cons, List.map_nil, List.cons_append, List.nil_append, List.append_nil, List.length_cons, List.length_nil, List.set_cons_zero, List.set_cons_succ, List.replicate, Nat.sub_self, Nat.zero_add, Nat.reduceAdd, Nat.reduceSub, if_true, if_false, Bool.false_eq_true, Bool.not_true, Bool.not_false, true_and, and_true, reduceIte, startE, frz, frz1, wipeE, Option.some.injEq, Sl.sh.injEq, Sl.own.injEq, o_nilT, o_consT, o_par, setD, unB, o_aug, o_augI, o_hN, o_hSub, o_hsNil, o_hsCons, o_hT, o_asgH, o_wrPop, o_dic, o_asT, v_asT_z, v_asT_t, v_asT_i, v_asT_l, o_methR, o_opR, o_ni]
          exact q _ _ (by omega) (r1 _) (Int.lt_trans (r2 _) (by decide))
        · simp only [c1, c2, decide_false, o_slot_sh, o_slot_own, o_var, o_c, o_op, o_un, o_nil, o_cons, o_consB, o_star, o_items_l, o_items_t, o_tup, o_lst, o_call, o_if, o_blOf, o_andV, o_orV, o_notV, o_test, o_and, o_or, o_not, o_truth, o_yes, o_chain, o_own, o_pos, o_kw, o_asObj, o_meth, o_cm, o_prop, o_sl, o_nth, o_make, o_tagO_t, o_tagO_f, o_slice, o_no, o_so, o_intOf, o_isi, o_fmt, o_js_nil, o_js_cons, o_m1, o_call1, o_next, o_seq, o_break, o_cont, o_ret, o_retN, o_drop, o_ifS, o_set, o_asg, o_put_p, o_put_f, o_put_b, o_leak_p, o_leak_f, o_leak_b, o_for, o_loop_nil, o_gN, o_gT, o_gL, o_gsNil, o_gsCons, o_any, o_enum, o_range1, o_range2, o_lc, o_lcL_nil, o_rev, o_turn, o_ownIn, o_sWr, o_sPut, o_sNever, o_kd_nx, o_kd_rt, o_kd_ex, o_frOf_p, o_frOf_f, o_frOf_b, List.getElem?_cons_zero, List.getElem?_cons_succ, List.map_cons, List.map_nil, List.cons_append, List.nil_append, List.append_nil, List.length_cons, List.length_nil, List.set_cons_zero, List.set_cons_succ, List.replicate, Nat.sub_self, Nat.zero_add, Nat.reduceAdd, Nat.reduceSub, if_true, if_false, Bool.false_eq_true, Bool.not_true, Bool.not_false, true_and, and_true, reduceIte, startE, frz, frz1, wipeE, Option.some.injEq, Sl.sh.injEq, Sl.own.injEq, o_nilT, o_consT, o_par, setD, unB, o_aug, o_augI, o_hN, o_hSub, o_hsNil, o_hsCons, o_hT, o_asgH, o_wrPop, o_dic, o_asT, v_asT_z, v_asT_t, v_asT_i, v_asT_l, o_methR, o_opR, o_ni]
          exact q _ _ (by decide) (r1 _) (Int.lt_trans (r2 _) (by decide))

abbrev sp_law : Sps := lawS 63
def r_law (T : Tx) : RS :=
  (sSeq (sRet (dCall fAll (dConsB (dLc (iRange1 (dConsB (dCall fMax (dConsB (dC (.int 2)) (dConsB (dCall fMin (dConsB (dCall fLen (dConsB (dVar 0) dNil)) (dConsB (dC (.int 5)) dNil))) dNil))) dNil)) [0] [1] (gN 1) dYes (dTurn T.pl 2 sp__law_begun (dPos 2 (dCons (dVar 0) (dCons (dVar 1) dNil))))) dNil))) sNext)
theorem pure_law (T : Tx) (hT : T.pl = pailP) : ∀ ds Qd xd, ds.length = 1 → sp_law ds Qd xd → r_law T (kdOf Qd xd) (startE (["script", "turn"] : List Str) ds) := by
  rintro _ Qd xd _ ⟨ns, rfl, hlen, hb, q⟩
  simp only [r_law, o_slot_sh, o_slot_own, o_var, o_c, o_op, o_un, o_nil, o_cons, o_consB, o_star, o_items_l, o_items_t, o_tup, o_lst, o_call, o_if, o_blOf, o_andV, o_orV, o_notV, o_test, o_and, o_or, o_not, o_truth, o_yes, o_chain, o_own, o_pos, o_kw, o_asObj, o_meth, o_cm, o_prop, o_sl, o_nth, o_make, o_tagO_t, o_tagO_f, o_slice, o_no, o_so, o_intOf, o_isi, o_fmt, o_js_nil, o_js_cons, o_m1, o_call1, o_next, o_seq, o_break, o_cont, o_ret, o_retN, o_drop, o_ifS, o_set, o_asg, o_put_p, o_put_f, o_put_b, o_leak_p, o_leak_f, o_leak_b, o_for, o_loop_nil, o_gN, o_gT, o_gL, o_gsNil, o_gsCons, o_any, o_enum, o_range1, o_range2, o_lc, o_lcL_nil, o_rev, o_turn, o_ownIn, o_sWr, o_sPut, o_sNever, o_kd_nx, o_kd_rt, o_kd_ex, o_frOf_p, o_frOf_f, o_frOf_b, List.getElem?_cons_zero, List.getElem?_cons_succ, List.map_cons, List.map_nil, List.cons_append, List.nil_append, List.append_nil, List.length_cons, List.length_nil, List.set_cons_zero, List.set_cons_succ, List.replicate, Nat.sub_self, Nat.zero_add, Nat.reduceAdd, Nat.reduceSub, if_true, if_false, Bool.false_eq_true, Bool.not_true, Bool.not_false, true_and, and_true, reduceIte, startE, Option.some.injEq, Sl.sh.injEq, Sl.own.injEq, o_nilT, o_consT, o_par, setD, unB, o_aug, o_augI, o_hN, o_hSub, o_hsNil, o_hsCons, o_hT, o_asgH, o_wrPop, o_dic, o_asT, v_asT_z, v_asT_t, v_asT_i, v_asT_l, o_methR, o_opR, o_ni, v_lensc, fMin, fMax]
  obtain ⟨n, hn, n5⟩ : ∃ n : Nat, max (2 : Int) (min (ns.length : Int) 5) = (n : Nat) ∧ n ≤ 5 := ⟨(max (2 : Int) (min (ns.length : Int) 5)).toNat, by omega, by omega⟩
  rw [hn]
  have hz : (ups 0 (n : Int).toNat).length ≤ sizeLine := by simp only [ups, List.length_map, List.length_range]; exact small_line (by omega)
  refine ⟨⟨by omega, by omega⟩, hz, ?_⟩
  simp only [o_slot_sh, o_slot_own, o_var, o_c, o_op, o_un, o_nil, o_cons, o_consB, o_star, o_items_l, o_items_t, o_tup, o_lst, o_call, o_if, o_blOf, o_andV, o_orV, o_notV, o_test, o_and, o_or, o_not, o_truth, o_yes, o_chain, o_own, o_pos, o_kw, o_asObj, o_meth, o_cm, o_prop, o_sl, o_nth, o_make, o_tagO_t, o_tagO_f, o_slice, o_no, o_so, o_intOf, o_isi, o_fmt, o_js_nil, o_js_cons, o_m1, o_call1, o_next, o_seq, o_break, o_cont, o_ret, o_retN, o_drop, o_ifS, o_set, o_asg, o_put_p, o_put_f, o_put_b, o_leak_p, o_leak_f, o_leak_b, o_for, o_loop_nil, o_gN, o_gT, o_gL, o_gsNil, o_gsCons, o_any, o_enum, o_range1, o_range2, o_lc, o_lcL_nil, o_rev, o_turn, o_ownIn, o_sWr, o_sPut, o_sNever, o_kd_nx, o_kd_rt, o_kd_ex, o_frOf_p, o_frOf_f, o_frOf_b, List.getElem?_cons_zero, List.getElem?_cons_succ, List.map_cons, List.map_nil, List.cons_append, List.nil_append, List.append_nil, List.length_cons, List.length_nil, List.set_cons_zero, List.set_cons_succ, List.replicate, Nat.sub_self, Nat.zero_add, Nat.reduceAdd, Nat.reduceSub, if_true, if_false, Bool.false_eq_true, Bool.not_true, Bool.not_false, true_and, and_true, reduceIte, startE, frz, frz1, wipeE, Option.some.injEq, Sl.sh.injEq, Sl.own.injEq, o_nilT, o_consT, o_par, setD, unB, o_aug, o_augI, o_hN, o_hSub, o_hsNil, o_hsCons, o_hT, o_asgH, o_wrPop, o_dic, o_asT, v_asT_z, v_asT_t, v_asT_i, v_asT_l, o_methR, o_opR, o_ni]
  unfold ups
  refine lcL_map (fun i : Nat => D.int (0 + (i : Nat))) (fun _ => .bl true) (fun i hi R hR => ?_) ?_
  · simp only [o_slot_sh, o_slot_own, o_var, o_c, o_op, o_un, o_nil, o_cons, o_consB, o_star, o_items_l, o_items_t, o_tup, o_lst, o_call, o_if, o_blOf, o_andV, o_orV, o_notV, o_test, o_and, o_or, o_not, o_truth, o_yes, o_chain, o_own, o_pos, o_kw, o_asObj, o_meth, o_cm, o_prop, o_sl, o_nth, o_make, o_tagO_t, o_tagO_f, o_slice, o_no, o_so, o_intOf, o_isi, o_fmt, o_js_nil, o_js_cons, o_m1, o_call1, o_next, o_seq, o_break, o_cont, o_ret, o_retN, o_drop, o_ifS, o_set, o_asg, o_put_p, o_put_f, o_put_b, o_leak_p, o_leak_f, o_leak_b, o_for, o_loop_nil, o_gN, o_gT, o_gL, o_gsNil, o_gsCons, o_any, o_enum, o_range1, o_range2, o_lc, o_lcL_nil, o_rev, o_turn, o_ownIn, o_sWr, o_sPut, o_sNever, o_kd_nx, o_kd_rt, o_kd_ex, o_frOf_p, o_frOf_f, o_frOf_b, List.getElem?_cons_zero, List.getElem?_cons_succ, List.map_cons, List.map_nil, List.cons_append, List.nil_append, List.append_nil, List.length_cons, List.length_nil, List.set_cons_zero, List.set_cons_succ, List.replicate, Nat.sub_self, Nat.zero_add, Nat.reduceAdd, Nat.reduceSub, if_true, if_false, Bool.false_eq_true, Bool.not_true, Bool.not_false, true_and, and_true, reduceIte, startE, frz, frz1, wipeE, Option.some.injEq, Sl.sh.injEq, Sl.own.injEq, o_nilT, o_consT, o_par, setD, unB, o_aug, o_augI, o_hN, o_hSub, o_hsNil, o_hsCons, o_hT, o_asgH, o_wrPop, o_dic, o_asT, v_asT_z, v_asT_t, v_asT_i, v_asT_l, o_methR, o_opR, o_ni, Nat.reduceLT, Nat.lt_add_one]
    refine ⟨ns, _, rfl, by omega, hb, fun a b a0 b0 b1 => ?_⟩
    simp only [o_slot_sh, o_slot_own, o_var, o_c, o_op, o_un, o_nil, o_cons, o_consB, o_star, o_items_l, o_items_t, o_tup, o_lst, o_call, o_if, o_blOf, o_andV, o_orV, o_notV, o_test, o_and, o_or, o_not, o_truth, o_yes, o_chain, o_own, o_pos, o_kw, o_asObj, o_meth, o_cm, o_prop, o_sl, o_nth, o_make, o_tagO_t, o_tagO_f, o_slice, o_no, o_so, o_intOf, o_isi, o_fmt, o_js_nil, o_js_cons, o_m1, o_call1, o_next, o_seq, o_break, o_cont, o_ret, o_retN, o_drop, o_ifS, o_set, o_asg, o_put_p, o_put_f, o_put_b, o_leak_p, o_leak_f, o_leak_b, o_for, o_loop_nil, o_gN, o_gT, o_gL, o_gsNil, o_gsCons, o_any, o_enum, o_range1, o_range2, o_lc, o_lcL_nil, o_rev, o_turn, o_ownIn, o_sWr, o_sPut, o_sNever, o_kd_nx, o_kd_rt, o_kd_ex, o_frOf_p, o_frOf_f, o_frOf_b, List.getElem?_cons_zero, List.getElem?_cons_succ, List.map_cons, List.map_nil, List.cons_append, List.nil_append, List.append_nil, List.length_cons, List.length_nil, List.set_cons_zero, List.set_cons_succ, List.replicate, Nat.sub_self, Nat.zero_add, Nat.reduceAdd, Nat.reduceSub, if_true, if_false, Bool.false_eq_true, Bool.not_true, Bool.not_false, true_and, and_true, reduceIte, startE, frz, frz1, wipeE, Option.some.injEq, Sl.sh.injEq, Sl.own.injEq, o_nilT, o_consT, o_par, setD, unB, o_aug, o_augI, o_hN, o_hSub, o_hsNil, o_hsCons, o_hT, o_asgH, o_wrPop, o_dic, o_asT, v_asT_z, v_asT_t, v_asT_i, v_asT_l, o_methR, o_opR, o_ni]
    exact ⟨⟨a, b, 0, rfl, by rw [hT]; exact ⟨a0, b0, b1, Int.le_refl 0⟩⟩, hR⟩
  · refine ⟨(List.range (n : Int).toNat).map fun _ => true, by rw [List.map_map]; rfl, ?_⟩
    have e : ((List.range (n : Int).toNat).map fun _ => true).all id = true := by simp
    rw [e]
    exact q

end Dc
set_option maxHeartbeats 2000000
namespace Dc
open PySem L2 PyProof.Rows PySem.W
def topS (i : Nat) : Stmt := PySem.Challenge.pw_degreerows_k14_rows_compared.main.body.getD i (.Pass ⟨0, 0, 0, 0⟩)
abbrev st__law_cast : Stmt := topS 29
abbrev st__law_any_of : Stmt := topS 30
abbrev st__law_vast : Stmt := topS 31
abbrev st__law_tidy : Stmt := topS 32
abbrev st__law_drawn : Stmt := topS 34
abbrev st_written_count : Stmt := topS 13
abbrev st_is_integer : Stmt := topS 11
abbrev st_is_count : Stmt := topS 12
abbrev st_is_kind : Stmt := topS 15
abbrev st_text_kind : Stmt := topS 25
abbrev st_wrong_kind : Stmt := topS 16
abbrev st_Row___init__ : Stmt := inClass (topS 22) 1
abbrev st_text_row : Stmt := topS 26
abbrev st_Row_read : Stmt := inClass (topS 22) 2
abbrev st__law_sheet : Stmt := topS 33
abbrev st__law_built : Stmt := topS 37
abbrev st__law_near : Stmt := topS 39
abbrev st__law_lot : Stmt := topS 35
abbrev st_check_listed : Stmt := topS 21
abbrev st_gathered : Stmt := topS 18
abbrev st_Row_listed : Stmt := inClass (topS 22) 3
abbrev st__law_of : Stmt := topS 36
abbrev st_kind_lines : Stmt := topS 24
abbrev st_Row___str__ : Stmt := inClass (topS 22) 14
abbrev st_Row_text : Stmt := inClass (topS 22) 7
abbrev st_Row___eq__ : Stmt := inClass (topS 22) 13
abbrev st__law_thing : Stmt := topS 38
abbrev st_Row_kinds : Stmt := inClass (topS 22) 4
abbrev st_places_of : Stmt := topS 17
abbrev st_Row_places : Stmt := inClass (topS 22) 5
abbrev st__law_right : Stmt := topS 40
abbrev st__law_begun : Stmt := topS 28
abbrev st_law : Stmt := topS 41
structure Ad where
  C_Row : Addr
  p_shape : Addr
  f__law_cast : Addr
  d__law_cast : FuncData
  f__law_any_of : Addr
  d__law_any_of : FuncData
  f__law_vast : Addr
  d__law_vast : FuncData
  f__law_tidy : Addr
  d__law_tidy : FuncData
  f__law_drawn : Addr
  d__law_drawn : FuncData
  f_written_count : Addr
  d_written_count : FuncData
  f_is_integer : Addr
  d_is_integer : FuncData
  f_is_count : Addr
  d_is_count : FuncData
  f_is_kind : Addr
  d_is_kind : FuncData
  f_text_kind : Addr
  d_text_kind : FuncData
  f_wrong_kind : Addr
  d_wrong_kind : FuncData
  f_Row___init__ : Addr
  d_Row___init__ : FuncData
  f_text_row : Addr
  d_text_row : FuncData
  f_Row_read : Addr
  d_Row_read : FuncData
  p_Row_read : Addr
  f__law_sheet : Addr
  d__law_sheet : FuncData
  f__law_built : Addr
  d__law_built : FuncData
  f__law_near : Addr
  d__law_near : FuncData
  f__law_lot : Addr
  d__law_lot : FuncData
  f_check_listed : Addr
  d_check_listed : FuncData
  f_gathered : Addr
  d_gathered : FuncData
  f_Row_listed : Addr
  d_Row_listed : FuncData
  p_Row_listed : Addr
  f__law_of : Addr
  d__law_of : FuncData
  f_kind_lines : Addr
  d_kind_lines : FuncData
  f_Row___str__ : Addr
  d_Row___str__ : FuncData
  f_Row_text : Addr
  d_Row_text : FuncData
  p_Row_text : Addr
  f_Row___eq__ : Addr
  d_Row___eq__ : FuncData
  f__law_thing : Addr
  d__law_thing : FuncData
  f_Row_kinds : Addr
  d_Row_kinds : FuncData
  p_Row_kinds : Addr
  f_places_of : Addr
  d_places_of : FuncData
  f_Row_places : Addr
  d_Row_places : FuncData
  p_Row_places : Addr
  f__law_right : Addr
  d__law_right : FuncData
  f__law_begun : Addr
  d__law_begun : FuncData
  f_law : Addr
  d_law : FuncData
abbrev txOf (A : Ad) (K : Frag) : Tx := ⟨K, fun n => A.C_Row, pailP, fun i j => if j = 0 then some (decide (i = 0)) else none⟩
structure Txt (A : Ad) (K : Frag) (mg : Str → Option Value) : Prop where
  scls_Row : SlX.SCls K A.C_Row
  fu__law_cast : Fun K "_law_cast" "_law_cast" st__law_cast A.f__law_cast A.d__law_cast
  fu__law_any_of : Fun K "_law_any_of" "_law_any_of" st__law_any_of A.f__law_any_of A.d__law_any_of
  fu__law_vast : Fun K "_law_vast" "_law_vast" st__law_vast A.f__law_vast A.d__law_vast
  fu__law_tidy : Fun K "_law_tidy" "_law_tidy" st__law_tidy A.f__law_tidy A.d__law_tidy
  fu__law_drawn : Fun K "_law_drawn" "_law_drawn" st__law_drawn A.f__law_drawn A.d__law_drawn
  fu_written_count : Fun K "written_count" "written_count" st_written_count A.f_written_count A.d_written_count
  fu_is_integer : Fun K "is_integer" "is_integer" st_is_integer A.f_is_integer A.d_is_integer
  fu_is_count : Fun K "is_count" "is_count" st_is_count A.f_is_count A.d_is_count
  fu_is_kind : Fun K "is_kind" "is_kind" st_is_kind A.f_is_kind A.d_is_kind
  fu_text_kind : Fun K "text_kind" "text_kind" st_text_kind A.f_text_kind A.d_text_kind
  fu_wrong_kind : Fun K "wrong_kind" "wrong_kind" st_wrong_kind A.f_wrong_kind A.d_wrong_kind
  fu_Row___init__ : Fun K "__init__" "Row.__init__" st_Row___init__ A.f_Row___init__ A.d_Row___init__
  fu_text_row : Fun K "text_row" "text_row" st_text_row A.f_text_row A.d_text_row
  fu_Row_read : Fun K "read" "Row.read" st_Row_read A.f_Row_read A.d_Row_read
  fu__law_sheet : Fun K "_law_sheet" "_law_sheet" st__law_sheet A.f__law_sheet A.d__law_sheet
  fu__law_built : Fun K "_law_built" "_law_built" st__law_built A.f__law_built A.d__law_built
  fu__law_near : Fun K "_law_near" "_law_near" st__law_near A.f__law_near A.d__law_near
  fu__law_lot : Fun K "_law_lot" "_law_lot" st__law_lot A.f__law_lot A.d__law_lot
  fu_check_listed : Fun K "check_listed" "check_listed" st_check_listed A.f_check_listed A.d_check_listed
  fu_gathered : Fun K "gathered" "gathered" st_gathered A.f_gathered A.d_gathered
  fu_Row_listed : Fun K "listed" "Row.listed" st_Row_listed A.f_Row_listed A.d_Row_listed
  fu__law_of : Fun K "_law_of" "_law_of" st__law_of A.f__law_of A.d__law_of
  fu_kind_lines : Fun K "kind_lines" "kind_lines" st_kind_lines A.f_kind_lines A.d_kind_lines
  fu_Row___str__ : Fun K "__str__" "Row.__str__" st_Row___str__ A.f_Row___str__ A.d_Row___str__
  fu_Row_text : Fun K "text" "Row.text" st_Row_text A.f_Row_text A.d_Row_text
  fu_Row___eq__ : Fun K "__eq__" "Row.__eq__" st_Row___eq__ A.f_Row___eq__ A.d_Row___eq__
  fu__law_thing : Fun K "_law_thing" "_law_thing" st__law_thing A.f__law_thing A.d__law_thing
  fu_Row_kinds : Fun K "kinds" "Row.kinds" st_Row_kinds A.f_Row_kinds A.d_Row_kinds
  fu_places_of : Fun K "places_of" "places_of" st_places_of A.f_places_of A.d_places_of
  fu_Row_places : Fun K "places" "Row.places" st_Row_places A.f_Row_places A.d_Row_places
  fu__law_right : Fun K "_law_right" "_law_right" st__law_right A.f__law_right A.d__law_right
  fu__law_begun : Fun K "_law_begun" "_law_begun" st__law_begun A.f__law_begun A.d__law_begun
  fu_law : Fun K "law" "law" st_law A.f_law A.d_law
  z_all : mg "all" = none
  z_range : mg "range" = none
  z_max : mg "max" = none
  z_min : mg "min" = none
  z_len : mg "len" = none
  m__law_cast : mg "_law_cast" = some (.ref A.f__law_cast)
  m__law_any_of : mg "_law_any_of" = some (.ref A.f__law_any_of)
  z_int : mg "int" = none
  m__law_vast : mg "_law_vast" = some (.ref A.f__law_vast)
  z_tuple : mg "tuple" = none
  z_sorted : mg "sorted" = none
  z_list : mg "list" = none
  m__law_tidy : mg "_law_tidy" = some (.ref A.f__law_tidy)
  m__law_drawn : mg "_law_drawn" = some (.ref A.f__law_drawn)
  z_isinstance : mg "isinstance" = none
  z_str : mg "str" = none
  is_str : IsF K (txOf A K) (.type "str") bStr noOb
  c_MOST_KINDS : ∃ tk, mg "MOST_KINDS" = some (Value.int 10 tk)
  c_DIGITS : ∃ tk, mg "DIGITS" = some (Value.str "0123456789" tk)
  m_written_count : mg "written_count" = some (.ref A.f_written_count)
  is_tuple : IsF K (txOf A K) (.type "tuple") bTup noOb
  is_int : IsF K (txOf A K) (.type "int") bInt noOb
  z_bool : mg "bool" = none
  is_bool : IsF K (txOf A K) (.type "bool") bBool noOb
  m_is_integer : mg "is_integer" = some (.ref A.f_is_integer)
  m_is_count : mg "is_count" = some (.ref A.f_is_count)
  c_MOST_DEGREE : ∃ tk, mg "MOST_DEGREE" = some (Value.int 10000000000000000000000000000000 tk)
  c_MOST_COUNT : ∃ tk, mg "MOST_COUNT" = some (Value.int 1000000000000000000000000000000 tk)
  m_is_kind : mg "is_kind" = some (.ref A.f_is_kind)
  m_text_kind : mg "text_kind" = some (.ref A.f_text_kind)
  z_enumerate : mg "enumerate" = none
  m_wrong_kind : mg "wrong_kind" = some (.ref A.f_wrong_kind)
  sl_shape : SlX.Slot1 K A.C_Row "shape" A.p_shape 0
  m_Row : mg "Row" = some (.ref A.C_Row)
  mk_Row : Mk K A.C_Row A.f_Row___init__
  m_text_row : mg "text_row" = some (.ref A.f_text_row)
  cr_Row : ClX.CRead K A.C_Row (.type "type")
  cm_Row_read : ClX.CMet K A.C_Row (.type "type") "read" A.p_Row_read A.f_Row_read
  m__law_sheet : mg "_law_sheet" = some (.ref A.f__law_sheet)
  m__law_built : mg "_law_built" = some (.ref A.f__law_built)
  m__law_near : mg "_law_near" = some (.ref A.f__law_near)
  m__law_lot : mg "_law_lot" = some (.ref A.f__law_lot)
  c_MOST_LISTED : ∃ tk, mg "MOST_LISTED" = some (Value.int 1000 tk)
  m_check_listed : mg "check_listed" = some (.ref A.f_check_listed)
  m_gathered : mg "gathered" = some (.ref A.f_gathered)
  cm_Row_listed : ClX.CMet K A.C_Row (.type "type") "listed" A.p_Row_listed A.f_Row_listed
  m__law_of : mg "_law_of" = some (.ref A.f__law_of)
  m_kind_lines : mg "kind_lines" = some (.ref A.f_kind_lines)
  me_Row___str__ : findIn K (.ref A.C_Row) "__str__" = some (some (.ref A.f_Row___str__)) ∧ isFn K (.ref A.f_Row___str__) = true
  pr_Row_text : findIn K (.ref A.C_Row) "text" = some (some (.ref A.p_Row_text)) ∧ specialIn K (.ref A.p_Row_text) "__get__" = some (some (.builtin "property.__get__")) ∧ takesIn K (.ref A.p_Row_text) = some true ∧ ∃ rest, recIn K A.p_Row_text "property" = some (.ref A.f_Row_text :: rest)
  z_repr : mg "repr" = none
  is_Row : IsF K (txOf A K) (.ref A.C_Row) {} ((txOf A K).ob 0)
  me_Row___eq__ : findIn K (.ref A.C_Row) "__eq__" = some (some (.ref A.f_Row___eq__)) ∧ isFn K (.ref A.f_Row___eq__) = true
  ne_Row : findIn K (.ref A.C_Row) "__ne__" = some (some (.builtin "object.__ne__")) ∧ mroIn K A.C_Row (.type "object") = some true
  m__law_thing : mg "_law_thing" = some (.ref A.f__law_thing)
  pr_Row_kinds : findIn K (.ref A.C_Row) "kinds" = some (some (.ref A.p_Row_kinds)) ∧ specialIn K (.ref A.p_Row_kinds) "__get__" = some (some (.builtin "property.__get__")) ∧ takesIn K (.ref A.p_Row_kinds) = some true ∧ ∃ rest, recIn K A.p_Row_kinds "property" = some (.ref A.f_Row_kinds :: rest)
  z_sum : mg "sum" = none
  m_places_of : mg "places_of" = some (.ref A.f_places_of)
  pr_Row_places : findIn K (.ref A.C_Row) "places" = some (some (.ref A.p_Row_places)) ∧ specialIn K (.ref A.p_Row_places) "__get__" = some (some (.builtin "property.__get__")) ∧ takesIn K (.ref A.p_Row_places) = some true ∧ ∃ rest, recIn K A.p_Row_places "property" = some (.ref A.f_Row_places :: rest)
  nt_Row : NotB K A.C_Row
  z_abs : mg "abs" = none
  m__law_right : mg "_law_right" = some (.ref A.f__law_right)
  m__law_begun : mg "_law_begun" = some (.ref A.f__law_begun)
  z_divmod : mg "divmod" = none
section
variable {P : Program} {w : World} {A : Ad} {K : Frag} {mg : Str → Option Value} {base : Heap}
theorem q_gint {X : Cx} {T : Tx} {W : WX} {x : Str} {pos : Pos} {i : Int} (h : ∃ tk, X.mg x = some (Value.int i tk)) (hg : Gl X x := by rfl) (hd : (x == ("__debug__" : Str)) = false := by decide) : PE X (.Name x pos) (liftE T W (dC (.int i))) := by
  obtain ⟨tk, h⟩ := h
  exact qe_glob h (v := .int i) ⟨tk, rfl⟩ (fun _ _ => .int i) hg hd
theorem q_gstr {X : Cx} {T : Tx} {W : WX} {x : Str} {pos : Pos} {i : Str} (h : ∃ tk, X.mg x = some (Value.str i tk)) (hg : Gl X x := by rfl) (hd : (x == ("__debug__" : Str)) = false := by decide) : PE X (.Name x pos) (liftE T W (dC (.str i))) := by
  obtain ⟨tk, h⟩ := h
  exact qe_glob h (v := .str i) ⟨tk, rfl⟩ (fun _ _ => .str i) hg hd
theorem kb__law_cast_2 (tx : Txt A K mg) : KB K A.d__law_cast (["pail", "many"] : List Str) 2 ([] : List Str) := kb_of tx.fu__law_cast fun _ _ _ _ _ _ us ws h1 h2 => match us, ws, h1, h2 with | [_, _], [], _, _ => rfl
theorem kb__law_any_of_2 (tx : Txt A K mg) : KB K A.d__law_any_of (["pail", "some"] : List Str) 2 ([] : List Str) := kb_of tx.fu__law_any_of fun _ _ _ _ _ _ us ws h1 h2 => match us, ws, h1, h2 with | [_, _], [], _, _ => rfl
theorem kb__law_vast_2 (tx : Txt A K mg) : KB K A.d__law_vast (["pail", "many"] : List Str) 2 ([] : List Str) := kb_of tx.fu__law_vast fun _ _ _ _ _ _ us ws h1 h2 => match us, ws, h1, h2 with | [_, _], [], _, _ => rfl
theorem kb__law_tidy_1 (tx : Txt A K mg) : KB K A.d__law_tidy (["pairs_here"] : List Str) 1 ([] : List Str) := kb_of tx.fu__law_tidy fun _ _ _ _ _ _ us ws h1 h2 => match us, ws, h1, h2 with | [_], [], _, _ => rfl
theorem kb__law_drawn_1 (tx : Txt A K mg) : KB K A.d__law_drawn (["pail"] : List Str) 1 ([] : List Str) := kb_of tx.fu__law_drawn fun _ _ _ _ _ _ us ws h1 h2 => match us, ws, h1, h2 with | [_], [], _, _ => rfl
theorem kb_written_count_1 (tx : Txt A K mg) : KB K A.d_written_count (["word"] : List Str) 1 ([] : List Str) := kb_of tx.fu_written_count fun _ _ _ _ _ _ us ws h1 h2 => match us, ws, h1, h2 with | [_], [], _, _ => rfl
theorem kb_is_integer_1 (tx : Txt A K mg) : KB K A.d_is_integer (["value"] : List Str) 1 ([] : List Str) := kb_of tx.fu_is_integer fun _ _ _ _ _ _ us ws h1 h2 => match us, ws, h1, h2 with | [_], [], _, _ => rfl
theorem kb_is_count_1 (tx : Txt A K mg) : KB K A.d_is_count (["value"] : List Str) 1 ([] : List Str) := kb_of tx.fu_is_count fun _ _ _ _ _ _ us ws h1 h2 => match us, ws, h1, h2 with | [_], [], _, _ => rfl
theorem kb_is_kind_2 (tx : Txt A K mg) : KB K A.d_is_kind (["value", "before"] : List Str) 2 ([] : List Str) := kb_of tx.fu_is_kind fun _ _ _ _ _ _ us ws h1 h2 => match us, ws, h1, h2 with | [_, _], [], _, _ => rfl
theorem kb_text_kind_1 (tx : Txt A K mg) : KB K A.d_text_kind (["line"] : List Str) 1 ([] : List Str) := kb_of tx.fu_text_kind fun _ _ _ _ _ _ us ws h1 h2 => match us, ws, h1, h2 with | [_], [], _, _ => rfl
theorem kb_wrong_kind_1 (tx : Txt A K mg) : KB K A.d_wrong_kind (["value"] : List Str) 1 ([] : List Str) := kb_of tx.fu_wrong_kind fun _ _ _ _ _ _ us ws h1 h2 => match us, ws, h1, h2 with | [_], [], _, _ => rfl
theorem kb_Row___init___2 (tx : Txt A K mg) : KB K A.d_Row___init__ (["self", "kinds"] : List Str) 2 ([] : List Str) := kb_of tx.fu_Row___init__ fun _ _ _ _ _ _ us ws h1 h2 => match us, ws, h1, h2 with | [_, _], [], _, _ => rfl
theorem kb_Row___init___1_kinds (tx : Txt A K mg) : KB K A.d_Row___init__ (["self", "kinds"] : List Str) 1 (["kinds"] : List Str) := kb_of tx.fu_Row___init__ fun _ _ _ _ _ _ us ws h1 h2 => match us, ws, h1, h2 with | [_], [_], _, _ => rfl
theorem kb_text_row_1 (tx : Txt A K mg) : KB K A.d_text_row (["value"] : List Str) 1 ([] : List Str) := kb_of tx.fu_text_row fun _ _ _ _ _ _ us ws h1 h2 => match us, ws, h1, h2 with | [_], [], _, _ => rfl
theorem kb_Row_read_2 (tx : Txt A K mg) : KB K A.d_Row_read (["cls", "text"] : List Str) 2 ([] : List Str) := kb_of tx.fu_Row_read fun _ _ _ _ _ _ us ws h1 h2 => match us, ws, h1, h2 with | [_, _], [], _, _ => rfl
theorem kb__law_sheet_1 (tx : Txt A K mg) : KB K A.d__law_sheet (["some"] : List Str) 1 ([] : List Str) := kb_of tx.fu__law_sheet fun _ _ _ _ _ _ us ws h1 h2 => match us, ws, h1, h2 with | [_], [], _, _ => rfl
theorem kb__law_built_2 (tx : Txt A K mg) : KB K A.d__law_built (["pail", "some"] : List Str) 2 ([] : List Str) := kb_of tx.fu__law_built fun _ _ _ _ _ _ us ws h1 h2 => match us, ws, h1, h2 with | [_, _], [], _, _ => rfl
theorem kb__law_near_2 (tx : Txt A K mg) : KB K A.d__law_near (["pail", "some"] : List Str) 2 ([] : List Str) := kb_of tx.fu__law_near fun _ _ _ _ _ _ us ws h1 h2 => match us, ws, h1, h2 with | [_, _], [], _, _ => rfl
theorem kb__law_lot_2 (tx : Txt A K mg) : KB K A.d__law_lot (["pail", "most"] : List Str) 2 ([] : List Str) := kb_of tx.fu__law_lot fun _ _ _ _ _ _ us ws h1 h2 => match us, ws, h1, h2 with | [_, _], [], _, _ => rfl
theorem kb_check_listed_1 (tx : Txt A K mg) : KB K A.d_check_listed (["value"] : List Str) 1 ([] : List Str) := kb_of tx.fu_check_listed fun _ _ _ _ _ _ us ws h1 h2 => match us, ws, h1, h2 with | [_], [], _, _ => rfl
theorem kb_gathered_1 (tx : Txt A K mg) : KB K A.d_gathered (["kinds"] : List Str) 1 ([] : List Str) := kb_of tx.fu_gathered fun _ _ _ _ _ _ us ws h1 h2 => match us, ws, h1, h2 with | [_], [], _, _ => rfl
theorem kb_Row_listed_2 (tx : Txt A K mg) : KB K A.d_Row_listed (["cls", "degrees"] : List Str) 2 ([] : List Str) := kb_of tx.fu_Row_listed fun _ _ _ _ _ _ us ws h1 h2 => match us, ws, h1, h2 with | [_, _], [], _, _ => rfl
theorem kb__law_of_1 (tx : Txt A K mg) : KB K A.d__law_of (["lot"] : List Str) 1 ([] : List Str) := kb_of tx.fu__law_of fun _ _ _ _ _ _ us ws h1 h2 => match us, ws, h1, h2 with | [_], [], _, _ => rfl
theorem kb_kind_lines_1 (tx : Txt A K mg) : KB K A.d_kind_lines (["kinds"] : List Str) 1 ([] : List Str) := kb_of tx.fu_kind_lines fun _ _ _ _ _ _ us ws h1 h2 => match us, ws, h1, h2 with | [_], [], _, _ => rfl
theorem kb_Row___str___1 (tx : Txt A K mg) : KB K A.d_Row___str__ (["self"] : List Str) 1 ([] : List Str) := kb_of tx.fu_Row___str__ fun _ _ _ _ _ _ us ws h1 h2 => match us, ws, h1, h2 with | [_], [], _, _ => rfl
theorem kb_Row_text_1 (tx : Txt A K mg) : KB K A.d_Row_text (["self"] : List Str) 1 ([] : List Str) := kb_of tx.fu_Row_text fun _ _ _ _ _ _ us ws h1 h2 => match us, ws, h1, h2 with | [_], [], _, _ => rfl
theorem kb_Row___eq___2 (tx : Txt A K mg) : KB K A.d_Row___eq__ (["self", "other"] : List Str) 2 ([] : List Str) := kb_of tx.fu_Row___eq__ fun _ _ _ _ _ _ us ws h1 h2 => match us, ws, h1, h2 with | [_, _], [], _, _ => rfl
theorem kb__law_thing_1 (tx : Txt A K mg) : KB K A.d__law_thing (["pail"] : List Str) 1 ([] : List Str) := kb_of tx.fu__law_thing fun _ _ _ _ _ _ us ws h1 h2 => match us, ws, h1, h2 with | [_], [], _, _ => rfl
theorem kb_Row_kinds_1 (tx : Txt A K mg) : KB K A.d_Row_kinds (["self"] : List Str) 1 ([] : List Str) := kb_of tx.fu_Row_kinds fun _ _ _ _ _ _ us ws h1 h2 => match us, ws, h1, h2 with | [_], [], _, _ => rfl
theorem kb_places_of_1 (tx : Txt A K mg) : KB K A.d_places_of (["kinds"] : List Str) 1 ([] : List Str) := kb_of tx.fu_places_of fun _ _ _ _ _ _ us ws h1 h2 => match us, ws, h1, h2 with | [_], [], _, _ => rfl
theorem kb_Row_places_1 (tx : Txt A K mg) : KB K A.d_Row_places (["self"] : List Str) 1 ([] : List Str) := kb_of tx.fu_Row_places fun _ _ _ _ _ _ us ws h1 h2 => match us, ws, h1, h2 with | [_], [], _, _ => rfl
theorem kb__law_right_1 (tx : Txt A K mg) : KB K A.d__law_right (["pail"] : List Str) 1 ([] : List Str) := kb_of tx.fu__law_right fun _ _ _ _ _ _ us ws h1 h2 => match us, ws, h1, h2 with | [_], [], _, _ => rfl
theorem kb__law_begun_2 (tx : Txt A K mg) : KB K A.d__law_begun (["script", "turn"] : List Str) 2 ([] : List Str) := kb_of tx.fu__law_begun fun _ _ _ _ _ _ us ws h1 h2 => match us, ws, h1, h2 with | [_, _], [], _, _ => rfl
theorem sc__law_cast : FnScope (["pail", "many", "figure", "state"] : List Str) (["pail", "many"] : List Str) (defScope st__law_cast) := ⟨rfl, rfl, rfl, by decide +kernel, rfl, by decide +kernel, by decide +kernel⟩
theorem ok__law_cast (tx : Txt A K mg) : FnG P w K mg base 1 A.f__law_cast A.d__law_cast (["pail", "many"] : List Str) (spD (txOf A K) 2 castS) := by
  refine fnG_of (k := 0) tx.fu__law_cast sc__law_cast (fun vs H Q E h => h.len) fun cdv Ar outer s H vs Q E hr hg h => ?_
  obtain ⟨a, m, x, y, z, rfl, hH, hp, h1, h2, q⟩ := cast_spD h
  exact ⟨_, (pss_cons (ps_if (pt_cmpR op_gt (pe_ix ix_list (pv 0) pe_int fun _ _ => rfl) pe_int (nobehind _ (by decide) (by decide))) (pss_cons (ps_asg (pe_callB call_divmodW (by rfl) tx.z_divmod (by decide +kernel) (pa_cons (pe_ix ix_list (pv 0) pe_int fun _ _ => rfl) (pa_cons (pv 1) pa_nil))) (pg_tup rfl (pgs_cons (pg_sub (pv 0) pe_int set_list) (pgs_cons (pg_name (i := 2) sc__law_cast.nd rfl (Or.inl rfl)) pgs_nil)))) (pss_cons (ps_ret (pv 2)) pss_nil)) pss_nil)
  (pss_cons (ps_asg (pe_op op_add (pe_ix ix_list (pv 0) pe_int fun _ _ => rfl) pe_int) (pg_sub (pv 0) pe_int set_list))
  (pss_cons (ps_set (i := 3) sc__law_cast.nd rfl (Or.inl rfl) (pe_op op_mod (pe_callTy call_int1 (by rfl) tx.z_int (by decide +kernel) (pa_cons (pe_op op_add (pe_op op_add (pe_op op_mul (pe_ix ix_list (pv 0) pe_int fun _ _ => rfl) (pe_op op_add pe_int (pe_op op_mul pe_int (pe_ix ix_list (pv 0) pe_int fun _ _ => rfl)))) (pe_op op_mul pe_int (pe_ix ix_list (pv 0) pe_int fun _ _ => rfl))) pe_int) pa_nil)) pe_int))
  (pss_cons (ps_asg (pe_op op_mod (pe_callTy call_int1 (by rfl) tx.z_int (by decide +kernel) (pa_cons (pe_op op_add (pe_op op_add (pe_op op_mul (pv 3) pe_int) (pe_op op_mul pe_int (pe_ix ix_list (pv 0) pe_int fun _ _ => rfl))) pe_int) pa_nil)) pe_int) (pg_sub (pv 0) pe_int set_list))
  (pss_cons (ps_ret (pe_op op_mod (pe_callTy call_int1 (by rfl) tx.z_int (by decide +kernel) (pa_cons (pe_op op_fdiv (pe_ix ix_list (pv 0) pe_int fun _ _ => rfl) pe_int) pa_nil)) (pv 1))) pss_nil))))), cast_ok (w1 := none) (w2 := none) hH hp h1 h2 q⟩
theorem sc__law_any_of : FnScope (["pail", "some"] : List Str) (["pail", "some"] : List Str) (defScope st__law_any_of) := ⟨rfl, rfl, rfl, by decide +kernel, rfl, by decide +kernel, by decide +kernel⟩
theorem ok__law_any_of (tx : Txt A K mg) : FnG P w K mg base 2 A.f__law_any_of A.d__law_any_of (["pail", "some"] : List Str) (spD (txOf A K) 2 sp__law_any_of) :=
  fnG_ok (T := txOf A K) (k := 1) (r__law_any_of (txOf A K)) tx.fu__law_any_of sc__law_any_of (fun cdv Ar outer s H E hr hg =>
  (qss_cons (qs_ret (qe_ix (opd_ixA hr) (qe_var 1) (qe_f (ok__law_cast tx) (hr.mono (by decide)) hg tx.m__law_cast tx.fu__law_cast.kp (kb__law_cast_2 tx) (takes_of rfl rfl rfl rfl) (qc_pos (qa_cons (qe_var 0) (qa_cons (qe_callB (cd_len) tx.z_len (by decide +kernel) (qb_cons (qe_var 1) qb_nil)) qa_nil))))))
  qss_nil)) (pure__law_any_of (txOf A K))
theorem sc__law_vast : FnScope (["pail", "many", "found", "turn"] : List Str) (["pail", "many"] : List Str) (defScope st__law_vast) := ⟨rfl, rfl, rfl, by decide +kernel, rfl, by decide +kernel, by decide +kernel⟩
theorem ok__law_vast (tx : Txt A K mg) : FnG P w K mg base 2 A.f__law_vast A.d__law_vast (["pail", "many"] : List Str) (spD (txOf A K) 2 sp__law_vast) :=
  fnG_ok (T := txOf A K) (k := 1) (r__law_vast (txOf A K)) tx.fu__law_vast sc__law_vast (fun cdv Ar outer s H E hr hg =>
  (qss_cons (qs_set 2 sc__law_vast.nd qe_int)
  (qss_cons (qs_for (passes_of rfl) rfl (qi_range1 tx.z_range (qb_cons qe_int qb_nil)) (qg_name 3 sc__law_vast.nd)
  (qss_cons (qs_set 2 sc__law_vast.nd (qe_op opd_add (qe_op opd_mul (qe_var 2) qe_int) (qe_f (ok__law_cast tx) (hr.mono (by decide)) hg tx.m__law_cast tx.fu__law_cast.kp (kb__law_cast_2 tx) (takes_of rfl rfl rfl rfl) (qc_pos (qa_cons (qe_var 0) (qa_cons qe_int qa_nil))))))
  qss_nil))
  (qss_cons (qs_ret (qe_op opd_mod (qe_callT (cd_int) tx.z_int (by decide +kernel) (qb_cons (qe_var 2) qb_nil)) (qe_var 1)))
  qss_nil)))) (pure__law_vast (txOf A K))
theorem sc__law_tidy : FnScope (["pairs_here", "table", "deg", "many"] : List Str) (["pairs_here"] : List Str) (defScope st__law_tidy) := ⟨rfl, rfl, rfl, by decide +kernel, rfl, by decide +kernel, by decide +kernel⟩
theorem ok__law_tidy (tx : Txt A K mg) : FnG P w K mg base 2 A.f__law_tidy A.d__law_tidy (["pairs_here"] : List Str) (spD (txOf A K) 1 sp__law_tidy) :=
  fnG_ok (T := txOf A K) (k := 1) (r__law_tidy (txOf A K)) tx.fu__law_tidy sc__law_tidy (fun cdv Ar outer s H E hr hg =>
  (qss_cons (qs_set 1 sc__law_tidy.nd qe_dnew)
  (qss_cons (qs_for (passes_of rfl) rfl (qi_any (qe_var 0)) (qg_tup rfl (qgs_cons (qg_name 2 sc__law_tidy.nd) (qgs_cons (qg_name 3 sc__law_tidy.nd) qgs_nil)))
  (qss_cons (qs_put 1 hr (qe_op opd_add (qe_get2 hr (qe_var 1) (qe_var 2) qe_int) (qe_var 3)) (qe_var 2))
  qss_nil))
  (qss_cons (qs_ret (qe_callT (cd_tuple) tx.z_tuple (by decide +kernel) (qb_cons (qe_lc [("deg", 2)] [1] rfl sc__law_tidy.nd (qi_any (qe_rev (qe_callB (cd_sorted) tx.z_sorted (by decide +kernel) (qb_cons (qe_callT (cd_list rfl) tx.z_list (by decide +kernel) (qb_cons (qe_var 1) qb_nil)) qb_nil)))) (blkOk_by (N := (["pairs_here", "table", "deg", "many"] : List Str)) (sc := defScope st__law_tidy) (by decide +kernel)) (by decide) (fun _ _ _ _ _ => (qg_name 2 sc__law_tidy.nd)) (fun _ _ _ _ _ => (qts_one (qt_cmp opd_gt (qe_ix (opd_ixA hr) (qe_var 1) (qe_var 2)) qe_int))) (fun _ _ _ _ _ => (qe_tup (qa_cons (qe_var 2) (qa_cons (qe_ix (opd_ixA hr) (qe_var 1) (qe_var 2)) qa_nil))))) qb_nil)))
  qss_nil)))) (pure__law_tidy (txOf A K))
theorem sc__law_drawn : FnScope (["pail", "table", "turn", "great", "small", "deg"] : List Str) (["pail"] : List Str) (defScope st__law_drawn) := ⟨rfl, rfl, rfl, by decide +kernel, rfl, by decide +kernel, by decide +kernel⟩
theorem ok__law_drawn (tx : Txt A K mg) : FnG P w K mg base 3 A.f__law_drawn A.d__law_drawn (["pail"] : List Str) (spD (txOf A K) 1 sp__law_drawn) :=
  fnG_ok (T := txOf A K) (k := 2) (r__law_drawn (txOf A K)) tx.fu__law_drawn sc__law_drawn (fun cdv Ar outer s H E hr hg =>
  (qss_cons (qs_set 1 sc__law_drawn.nd qe_dnew)
  (qss_cons (qs_for (passes_of rfl) rfl (qi_range1 tx.z_range (qb_cons (qe_f (ok__law_any_of tx) (hr.mono (by decide)) hg tx.m__law_any_of tx.fu__law_any_of.kp (kb__law_any_of_2 tx) (takes_of rfl rfl rfl rfl) (qc_pos (qa_cons (qe_var 0) (qa_cons (qe_lst (qa_cons qe_int (qa_cons qe_int (qa_cons qe_int (qa_cons qe_int (qa_cons qe_int (qa_cons qe_int (qa_cons qe_int (qa_cons qe_int qa_nil))))))))) qa_nil)))) qb_nil)) (qg_name 2 sc__law_drawn.nd)
  (qss_cons (qs_par2 3 4 rfl sc__law_drawn.nd (qt_cons (qe_f (ok__law_vast tx) (hr.mono (by decide)) hg tx.m__law_vast tx.fu__law_vast.kp (kb__law_vast_2 tx) (takes_of rfl rfl rfl rfl) (qc_pos (qa_cons (qe_var 0) (qa_cons (qe_op opd_add (qe_op opd_pow qe_int qe_int) qe_int) qa_nil)))) (qt_cons (qe_f (ok__law_cast tx) (hr.mono (by decide)) hg tx.m__law_cast tx.fu__law_cast.kp (kb__law_cast_2 tx) (takes_of rfl rfl rfl rfl) (qc_pos (qa_cons (qe_var 0) (qa_cons qe_int qa_nil)))) qt_nil)))
  (qss_cons (qs_set 5 sc__law_drawn.nd (qe_f (ok__law_any_of tx) (hr.mono (by decide)) hg tx.m__law_any_of tx.fu__law_any_of.kp (kb__law_any_of_2 tx) (takes_of rfl rfl rfl rfl) (qc_pos (qa_cons (qe_var 0) (qa_cons (qe_lst (qa_cons (qe_f (ok__law_cast tx) (hr.mono (by decide)) hg tx.m__law_cast tx.fu__law_cast.kp (kb__law_cast_2 tx) (takes_of rfl rfl rfl rfl) (qc_pos (qa_cons (qe_var 0) (qa_cons qe_int qa_nil)))) (qa_cons (qe_f (ok__law_cast tx) (hr.mono (by decide)) hg tx.m__law_cast tx.fu__law_cast.kp (kb__law_cast_2 tx) (takes_of rfl rfl rfl rfl) (qc_pos (qa_cons (qe_var 0) (qa_cons qe_int qa_nil)))) (qa_cons (qe_var 3) (qa_cons (qe_op opd_sub (qe_op opd_pow qe_int qe_int) (qe_f (ok__law_cast tx) (hr.mono (by decide)) hg tx.m__law_cast tx.fu__law_cast.kp (kb__law_cast_2 tx) (takes_of rfl rfl rfl rfl) (qc_pos (qa_cons (qe_var 0) (qa_cons qe_int qa_nil))))) qa_nil))))) qa_nil)))))
  (qss_cons (qs_put 1 hr (qe_f (ok__law_any_of tx) (hr.mono (by decide)) hg tx.m__law_any_of tx.fu__law_any_of.kp (kb__law_any_of_2 tx) (takes_of rfl rfl rfl rfl) (qc_pos (qa_cons (qe_var 0) (qa_cons (qe_lst (qa_cons qe_int (qa_cons qe_int (qa_cons qe_int (qa_cons qe_int (qa_cons (qe_op opd_add qe_int (qe_var 4)) (qa_cons (qe_op opd_sub (qe_op opd_pow qe_int qe_int) (qe_var 4)) (qa_cons (qe_op opd_add qe_int (qe_op opd_div (qe_var 3) qe_int)) qa_nil)))))))) qa_nil)))) (qe_var 5))
  qss_nil))))
  (qss_cons (qs_ret (qe_f (ok__law_tidy tx) (hr.mono (by decide)) hg tx.m__law_tidy tx.fu__law_tidy.kp (kb__law_tidy_1 tx) (takes_of rfl rfl rfl rfl) (qc_pos (qa_cons (qe_lc [("deg", 5)] [1] rfl sc__law_drawn.nd (qi_any (qe_callT (cd_list rfl) tx.z_list (by decide +kernel) (qb_cons (qe_var 1) qb_nil))) (blkOk_by (N := (["pail", "table", "turn", "great", "small", "deg"] : List Str)) (sc := defScope st__law_drawn) (by decide +kernel)) (by decide) (fun _ _ _ _ _ => (qg_name 5 sc__law_drawn.nd)) (fun _ _ _ _ _ => qts_nil) (fun _ _ _ _ _ => (qe_tup (qa_cons (qe_var 5) (qa_cons (qe_callB (cd_min rfl) tx.z_min (by decide +kernel) (qb_cons (qe_op opd_pow qe_int qe_int) (qb_cons (qe_ix (opd_ixA hr) (qe_var 1) (qe_var 5)) qb_nil))) qa_nil))))) qa_nil))))
  qss_nil)))) (pure__law_drawn (txOf A K))
theorem sc_written_count : FnScope (["word", "sign"] : List Str) (["word"] : List Str) (defScope st_written_count) := ⟨rfl, rfl, rfl, by decide +kernel, rfl, by decide +kernel, by decide +kernel⟩
theorem ok_written_count (tx : Txt A K mg) : FnG P w K mg base 2 A.f_written_count A.d_written_count (["word"] : List Str) (spD (txOf A K) 1 sp_written_count) :=
  fnG_ok (T := txOf A K) (k := 1) (r_written_count (txOf A K)) tx.fu_written_count sc_written_count (fun cdv Ar outer s H E hr hg =>
  (qss_cons (qs_if (qw_or (qt_cmp (opd_eq hr) (qe_var 0) qe_str) (qw_or (qt_cmp opd_gt (qe_callB (cd_len) tx.z_len (by decide +kernel) (qb_cons (qe_var 0) qb_nil)) qe_int) (qw_or1 (qt_not (qt_truth (qe_callB (cd_all rfl) tx.z_all (by decide +kernel) (qb_cons (qe_lc [("sign", 1)] [] rfl sc_written_count.nd (qi_any (qe_var 0)) (blkOk_by (N := (["word", "sign"] : List Str)) (sc := defScope st_written_count) (by decide +kernel)) (by decide) (fun _ _ _ _ _ => (qg_name 1 sc_written_count.nd)) (fun _ _ _ _ _ => qts_nil) (fun _ _ _ _ _ => (qe_cmp (opd_inA hr) (qe_var 1) (q_gstr tx.c_DIGITS)))) qb_nil))))))).pt (qss_cons (qs_ret qe_non)
  qss_nil) qss_nil)
  (qss_cons (qs_ret (qe_if (qt_cmp (opd_eq hr) (qe_callT (cd_str) tx.z_str (by decide +kernel) (qb_cons (qe_callT (cd_int) tx.z_int (by decide +kernel) (qb_cons (qe_var 0) qb_nil)) qb_nil)) (qe_var 0)) (qe_callT (cd_int) tx.z_int (by decide +kernel) (qb_cons (qe_var 0) qb_nil)) qe_non))
  qss_nil))) (pure_written_count (txOf A K))
theorem sc_is_integer : FnScope (["value"] : List Str) (["value"] : List Str) (defScope st_is_integer) := ⟨rfl, rfl, rfl, by decide +kernel, rfl, by decide +kernel, by decide +kernel⟩
theorem ok_is_integer (tx : Txt A K mg) : FnG P w K mg base 2 A.f_is_integer A.d_is_integer (["value"] : List Str) (spD (txOf A K) 1 sp_is_integer) :=
  fnG_ok (T := txOf A K) (k := 1) (r_is_integer (txOf A K)) tx.fu_is_integer sc_is_integer (fun cdv Ar outer s H E hr hg =>
  (qss_cons (qs_ret (qe_and (qe_isiT tx.is_int tx.z_isinstance tx.z_int (by decide +kernel) (qe_var 0)) (qe_one (qe_not (qe_isiT tx.is_bool tx.z_isinstance tx.z_bool (by decide +kernel) (qe_var 0))))))
  qss_nil)) (pure_is_integer (txOf A K))
theorem sc_is_count : FnScope (["value"] : List Str) (["value"] : List Str) (defScope st_is_count) := ⟨rfl, rfl, rfl, by decide +kernel, rfl, by decide +kernel, by decide +kernel⟩
theorem ok_is_count (tx : Txt A K mg) : FnG P w K mg base 3 A.f_is_count A.d_is_count (["value"] : List Str) (spD (txOf A K) 1 sp_is_count) :=
  fnG_ok (T := txOf A K) (k := 2) (r_is_count (txOf A K)) tx.fu_is_count sc_is_count (fun cdv Ar outer s H E hr hg =>
  (qss_cons (qs_ret (qe_and (qe_f (ok_is_integer tx) (hr.mono (by decide)) hg tx.m_is_integer tx.fu_is_integer.kp (kb_is_integer_1 tx) (takes_of rfl rfl rfl rfl) (qc_pos (qa_cons (qe_var 0) qa_nil))) (qe_one (qe_cmp opd_ge (qe_var 0) qe_int))))
  qss_nil)) (pure_is_count (txOf A K))
theorem sc_is_kind : FnScope (["value", "before"] : List Str) (["value", "before"] : List Str) (defScope st_is_kind) := ⟨rfl, rfl, rfl, by decide +kernel, rfl, by decide +kernel, by decide +kernel⟩
theorem ok_is_kind (tx : Txt A K mg) : FnG P w K mg base 4 A.f_is_kind A.d_is_kind (["value", "before"] : List Str) (spD (txOf A K) 2 sp_is_kind) :=
  fnG_ok (T := txOf A K) (k := 3) (r_is_kind (txOf A K)) tx.fu_is_kind sc_is_kind (fun cdv Ar outer s H E hr hg =>
  (qss_cons (qs_if (qw_or (qt_not (qt_truth (qe_isiT tx.is_tuple tx.z_isinstance tx.z_tuple (by decide +kernel) (qe_var 0)))) (qw_or (qt_cmp (opd_ne hr) (qe_callB (cd_len) tx.z_len (by decide +kernel) (qb_cons (qe_var 0) qb_nil)) qe_int) (qw_or (qt_not (qt_truth (qe_f (ok_is_count tx) (hr.mono (by decide)) hg tx.m_is_count tx.fu_is_count.kp (kb_is_count_1 tx) (takes_of rfl rfl rfl rfl) (qc_pos (qa_cons (qe_ix (opd_ixA hr) (qe_var 0) qe_int) qa_nil))))) (qw_or1 (qt_cmp opd_gt (qe_ix (opd_ixA hr) (qe_var 0) qe_int) (q_gint tx.c_MOST_DEGREE)))))).pt (qss_cons (qs_ret qe_bl)
  qss_nil) qss_nil)
  (qss_cons (qs_if (qw_or (qt_not (qt_truth (qe_f (ok_is_integer tx) (hr.mono (by decide)) hg tx.m_is_integer tx.fu_is_integer.kp (kb_is_integer_1 tx) (takes_of rfl rfl rfl rfl) (qc_pos (qa_cons (qe_ix (opd_ixA hr) (qe_var 0) qe_int) qa_nil))))) (qw_or1 (qt_not (qt_chain opd_le opd_le qe_int (qe_ix (opd_ixA hr) (qe_var 0) qe_int) (q_gint tx.c_MOST_COUNT))))).pt (qss_cons (qs_ret qe_bl)
  qss_nil) qss_nil)
  (qss_cons (qs_ret (qe_or (qe_cmp opd_is (qe_var 1) qe_non) (qe_one (qe_cmp opd_lt (qe_ix (opd_ixA hr) (qe_var 0) qe_int) (qe_ix (opd_ixA hr) (qe_var 1) qe_int)))))
  qss_nil)))) (pure_is_kind (txOf A K))
theorem sc_text_kind : FnScope (["line", "words", "kind"] : List Str) (["line"] : List Str) (defScope st_text_kind) := ⟨rfl, rfl, rfl, by decide +kernel, rfl, by decide +kernel, by decide +kernel⟩
theorem ok_text_kind (tx : Txt A K mg) : FnG P w K mg base 5 A.f_text_kind A.d_text_kind (["line"] : List Str) (spD (txOf A K) 1 sp_text_kind) :=
  fnG_ok (T := txOf A K) (k := 4) (r_text_kind (txOf A K)) tx.fu_text_kind sc_text_kind (fun cdv Ar outer s H E hr hg =>
  (qss_cons (qs_set 1 sc_text_kind.nd (qe_split (qe_var 0) qe_str))
  (qss_cons (qs_if (qw_or (qt_cmp (opd_ne hr) (qe_callB (cd_len) tx.z_len (by decide +kernel) (qb_cons (qe_var 1) qb_nil)) qe_int) (qw_or1 (qt_cmp (opd_ne hr) (qe_ix (opd_ixA hr) (qe_var 1) qe_int) qe_str))).pt (qss_cons (qs_ret qe_non)
  qss_nil) qss_nil)
  (qss_cons (qs_set 2 sc_text_kind.nd (qe_tup (qa_cons (qe_f (ok_written_count tx) (hr.mono (by decide)) hg tx.m_written_count tx.fu_written_count.kp (kb_written_count_1 tx) (takes_of rfl rfl rfl rfl) (qc_pos (qa_cons (qe_ix (opd_ixA hr) (qe_var 1) qe_int) qa_nil))) (qa_cons (qe_f (ok_written_count tx) (hr.mono (by decide)) hg tx.m_written_count tx.fu_written_count.kp (kb_written_count_1 tx) (takes_of rfl rfl rfl rfl) (qc_pos (qa_cons (qe_ix (opd_ixA hr) (qe_var 1) qe_int) qa_nil))) qa_nil))))
  (qss_cons (qs_ret (qe_if (qw_and (qt_cmp (opd_notinA hr) qe_non (qe_var 2)) (qw_and1 (qt_truth (qe_f (ok_is_kind tx) (hr.mono (by decide)) hg tx.m_is_kind tx.fu_is_kind.kp (kb_is_kind_2 tx) (takes_of rfl rfl rfl rfl) (qc_pos (qa_cons (qe_var 2) (qa_cons qe_non qa_nil))))))).pt (qe_var 2) qe_non))
  qss_nil))))) (pure_text_kind (txOf A K))
theorem sc_wrong_kind : FnScope (["value", "at", "kind"] : List Str) (["value"] : List Str) (defScope st_wrong_kind) := ⟨rfl, rfl, rfl, by decide +kernel, rfl, by decide +kernel, by decide +kernel⟩
theorem ok_wrong_kind (tx : Txt A K mg) : FnG P w K mg base 5 A.f_wrong_kind A.d_wrong_kind (["value"] : List Str) (spD (txOf A K) 1 sp_wrong_kind) :=
  fnG_ok (T := txOf A K) (k := 4) (r_wrong_kind (txOf A K)) tx.fu_wrong_kind sc_wrong_kind (fun cdv Ar outer s H E hr hg =>
  (qss_cons (qs_if (qw_or (qt_not (qt_truth (qe_isiT tx.is_tuple tx.z_isinstance tx.z_tuple (by decide +kernel) (qe_var 0)))) (qw_or1 (qt_cmp (opd_eq hr) (qe_callB (cd_len) tx.z_len (by decide +kernel) (qb_cons (qe_var 0) qb_nil)) qe_int))).pt (qss_cons (qs_ret (qe_un opd_neg qe_int))
  qss_nil) qss_nil)
  (qss_cons (qs_for (passes_of rfl) rfl (qi_enum tx.z_enumerate (qe_var 0)) (qg_tup rfl (qgs_cons (qg_name 1 sc_wrong_kind.nd) (qgs_cons (qg_name 2 sc_wrong_kind.nd) qgs_nil)))
  (qss_cons (qs_if (qw_or (qt_cmp (opd_eq hr) (qe_var 1) (q_gint tx.c_MOST_KINDS)) (qw_or1 (qt_not (qt_truth (qe_f (ok_is_kind tx) (hr.mono (by decide)) hg tx.m_is_kind tx.fu_is_kind.kp (kb_is_kind_2 tx) (takes_of rfl rfl rfl rfl) (qc_pos (qa_cons (qe_var 2) (qa_cons (qe_if (qt_cmp (opd_eq hr) (qe_var 1) qe_int) qe_non (qe_ix (opd_ixA hr) (qe_var 0) (qe_op opd_sub (qe_var 1) qe_int))) qa_nil)))))))).pt (qss_cons (qs_ret (qe_var 1))
  qss_nil) qss_nil)
  qss_nil))
  (qss_cons (qs_ret qe_non)
  qss_nil)))) (pure_wrong_kind (txOf A K))
theorem sc_Row___init__ : FnScope (["self", "kinds", "at"] : List Str) (["self", "kinds"] : List Str) (defScope st_Row___init__) := ⟨rfl, rfl, rfl, by decide +kernel, rfl, by decide +kernel, by decide +kernel⟩
theorem ok_Row___init__ (tx : Txt A K mg) : FnG P w K mg base 6 A.f_Row___init__ A.d_Row___init__ (["self", "kinds"] : List Str) (spI (txOf A K) 0 2 sp_Row___init__) :=
  fnI_ok (T := txOf A K) (cn := 0) (k := 5) (r_Row___init__ (txOf A K)) tx.fu_Row___init__ sc_Row___init__ (fun cdv Ar outer s H E hr hg =>
  (qsi_pre (qs_set 2 sc_Row___init__.nd (qe_f (ok_wrong_kind tx) (hr.mono (by decide)) hg tx.m_wrong_kind tx.fu_wrong_kind.kp (kb_wrong_kind_1 tx) (takes_of rfl rfl rfl rfl) (qc_pos (qa_cons (qe_var 1) qa_nil))))
  (qsi_pre (qs_if (qt_cmp opd_isnot (qe_var 2) qe_non) (qss_cons qs_never
  qss_nil) qss_nil)
  (qsi_st tx.scls_Row tx.sl_shape (qe_var 1) qsi_end)))) (pure_Row___init__ (txOf A K))
theorem sc_text_row : FnScope (["value", "lines", "kinds", "line"] : List Str) (["value"] : List Str) (defScope st_text_row) := ⟨rfl, rfl, rfl, by decide +kernel, rfl, by decide +kernel, by decide +kernel⟩
theorem ok_text_row (tx : Txt A K mg) : FnG P w K mg base 8 A.f_text_row A.d_text_row (["value"] : List Str) (spD (txOf A K) 1 sp_text_row) :=
  fnG_ok (T := txOf A K) (k := 7) (r_text_row (txOf A K)) tx.fu_text_row sc_text_row (fun cdv Ar outer s H E hr hg =>
  (qss_cons (qs_if (qt_not (qt_truth (qe_isiT tx.is_str tx.z_isinstance tx.z_str (by decide +kernel) (qe_var 0)))) (qss_cons (qs_ret qe_non)
  qss_nil) qss_nil)
  (qss_cons (qs_set 1 sc_text_row.nd (qe_split (qe_var 0) qe_str))
  (qss_cons (qs_if (qw_or (qt_cmp (opd_ne hr) (qe_ix (opd_ixA hr) (qe_var 1) qe_int) qe_str) (qw_or1 (qt_not (qt_chain opd_le opd_le qe_int (qe_callB (cd_len) tx.z_len (by decide +kernel) (qb_cons (qe_var 1) qb_nil)) (qe_op opd_add (q_gint tx.c_MOST_KINDS) qe_int))))).pt (qss_cons (qs_ret qe_non)
  qss_nil) qss_nil)
  (qss_cons (qs_set 2 sc_text_row.nd (qe_callT (cd_tuple) tx.z_tuple (by decide +kernel) (qb_cons (qe_lc [("line", 3)] [] rfl sc_text_row.nd (qi_any (qe_slice (qe_var 1) (qo_so qe_int) qo_no)) (blkOk_by (N := (["value", "lines", "kinds", "line"] : List Str)) (sc := defScope st_text_row) (by decide +kernel)) (by decide) (fun _ _ _ _ _ => (qg_name 3 sc_text_row.nd)) (fun _ _ _ _ _ => qts_nil) (fun _ _ _ _ _ => (qe_f (ok_text_kind tx) (hr.mono (by decide)) hg tx.m_text_kind tx.fu_text_kind.kp (kb_text_kind_1 tx) takes0 (qc_pos (qa_cons (qe_var 3) qa_nil))))) qb_nil)))
  (qss_cons (qs_ret (qe_if (qw_or (qt_cmp (opd_inA hr) qe_non (qe_var 2)) (qw_or1 (qt_cmp opd_isnot (qe_f (ok_wrong_kind tx) (hr.mono (by decide)) hg tx.m_wrong_kind tx.fu_wrong_kind.kp (kb_wrong_kind_1 tx) (takes_of rfl rfl rfl rfl) (qc_pos (qa_cons (qe_var 2) qa_nil))) qe_non))).pt qe_non (qe_mk tx.mk_Row (ok_Row___init__ tx) (hr.mono (by decide)) hg tx.m_Row (kb_Row___init___2 tx) (takes_of rfl rfl rfl rfl) (qc_pos (qa_cons (qe_var 2) qa_nil)))))
  qss_nil)))))) (pure_text_row (txOf A K))
theorem sc_Row_read : FnScope (["cls", "text", "row"] : List Str) (["cls", "text"] : List Str) (defScope st_Row_read) := ⟨rfl, rfl, rfl, by decide +kernel, rfl, by decide +kernel, by decide +kernel⟩
theorem ok_Row_read (tx : Txt A K mg) : FnG P w K mg base 9 A.f_Row_read A.d_Row_read (["cls", "text"] : List Str) (spD (txOf A K) 2 sp_Row_read) :=
  fnG_ok (T := txOf A K) (k := 8) (r_Row_read (txOf A K)) tx.fu_Row_read sc_Row_read (fun cdv Ar outer s H E hr hg =>
  (qss_cons (qs_set 2 sc_Row_read.nd (qe_f (ok_text_row tx) (hr.mono (by decide)) hg tx.m_text_row tx.fu_text_row.kp (kb_text_row_1 tx) (takes_of rfl rfl rfl rfl) (qc_pos (qa_cons (qe_var 1) qa_nil))))
  (qss_cons (qs_if (qt_cmp opd_is (qe_var 2) qe_non) (qss_cons qs_never
  qss_nil) qss_nil)
  (qss_cons (qs_ret (qe_var 2))
  qss_nil)))) (pure_Row_read (txOf A K))
theorem sc__law_sheet : FnScope (["some", "deg", "many"] : List Str) (["some"] : List Str) (defScope st__law_sheet) := ⟨rfl, rfl, rfl, by decide +kernel, rfl, by decide +kernel, by decide +kernel⟩
theorem ok__law_sheet (tx : Txt A K mg) : FnG P w K mg base 2 A.f__law_sheet A.d__law_sheet (["some"] : List Str) (spD (txOf A K) 1 sp__law_sheet) :=
  fnG_ok (T := txOf A K) (k := 1) (r__law_sheet (txOf A K)) tx.fu__law_sheet sc__law_sheet (fun cdv Ar outer s H E hr hg =>
  (qss_cons (qs_ret (qe_join qe_str (qe_op opd_add (qe_lst (qa_cons qe_str qa_nil)) (qe_lc [("deg", 1), ("many", 2)] [] rfl sc__law_sheet.nd (qi_any (qe_var 0)) (blkOk_by (N := (["some", "deg", "many"] : List Str)) (sc := defScope st__law_sheet) (by decide +kernel)) (by decide) (fun _ _ _ _ _ => (qg_tup rfl (qgs_cons (qg_name 1 sc__law_sheet.nd) (qgs_cons (qg_name 2 sc__law_sheet.nd) qgs_nil)))) (fun _ _ _ _ _ => qts_nil) (fun _ _ _ _ _ => (qe_op opd_add (qe_op opd_add (qe_callT (cd_str) tx.z_str (by decide +kernel) (qb_cons (qe_var 1) qb_nil)) qe_str) (qe_callT (cd_str) tx.z_str (by decide +kernel) (qb_cons (qe_var 2) qb_nil))))))))
  qss_nil)) (pure__law_sheet (txOf A K))
theorem sc__law_built : FnScope (["pail", "some", "way"] : List Str) (["pail", "some"] : List Str) (defScope st__law_built) := ⟨rfl, rfl, rfl, by decide +kernel, rfl, by decide +kernel, by decide +kernel⟩
theorem ok__law_built (tx : Txt A K mg) : FnG P w K mg base 10 A.f__law_built A.d__law_built (["pail", "some"] : List Str) (spD (txOf A K) 2 sp__law_built) :=
  fnG_ok (T := txOf A K) (k := 9) (r__law_built (txOf A K)) tx.fu__law_built sc__law_built (fun cdv Ar outer s H E hr hg =>
  (qss_cons (qs_set 2 sc__law_built.nd (qe_f (ok__law_cast tx) (hr.mono (by decide)) hg tx.m__law_cast tx.fu__law_cast.kp (kb__law_cast_2 tx) (takes_of rfl rfl rfl rfl) (qc_pos (qa_cons (qe_var 0) (qa_cons qe_int qa_nil)))))
  (qss_cons (qs_if (qt_cmp (opd_eq hr) (qe_var 2) qe_int) (qss_cons (qs_ret (qe_mk tx.mk_Row (ok_Row___init__ tx) (hr.mono (by decide)) hg tx.m_Row (kb_Row___init___2 tx) (takes_of rfl rfl rfl rfl) (qc_pos (qa_cons (qe_var 1) qa_nil))))
  qss_nil) qss_nil)
  (qss_cons (qs_ret (qe_if (qt_cmp (opd_eq hr) (qe_var 2) qe_int) (qe_mk tx.mk_Row (ok_Row___init__ tx) (hr.mono (by decide)) hg tx.m_Row (kb_Row___init___1_kinds tx) (takes_of rfl rfl rfl rfl) (qc_kw0 (qk_cons (qe_var 1) qk_nil))) (qe_cm (cn := 0) tx.cr_Row tx.cm_Row_read (ok_Row_read tx) (hr.mono (by decide)) hg (kb_Row_read_2 tx) (takes_of rfl rfl rfl rfl) tx.m_Row (qc_pos (qa_cons (qe_f (ok__law_sheet tx) (hr.mono (by decide)) hg tx.m__law_sheet tx.fu__law_sheet.kp (kb__law_sheet_1 tx) (takes_of rfl rfl rfl rfl) (qc_pos (qa_cons (qe_var 1) qa_nil))) qa_nil)))))
  qss_nil)))) (pure__law_built (txOf A K))
theorem sc__law_near : FnScope (["pail", "some", "at", "way", "deg", "many"] : List Str) (["pail", "some"] : List Str) (defScope st__law_near) := ⟨rfl, rfl, rfl, by decide +kernel, rfl, by decide +kernel, by decide +kernel⟩
theorem ok__law_near (tx : Txt A K mg) : FnG P w K mg base 2 A.f__law_near A.d__law_near (["pail", "some"] : List Str) (spD (txOf A K) 2 sp__law_near) :=
  fnG_ok (T := txOf A K) (k := 1) (r__law_near (txOf A K)) tx.fu__law_near sc__law_near (fun cdv Ar outer s H E hr hg =>
  (qss_cons (qs_par2 2 3 rfl sc__law_near.nd (qt_cons (qe_f (ok__law_cast tx) (hr.mono (by decide)) hg tx.m__law_cast tx.fu__law_cast.kp (kb__law_cast_2 tx) (takes_of rfl rfl rfl rfl) (qc_pos (qa_cons (qe_var 0) (qa_cons (qe_callB (cd_len) tx.z_len (by decide +kernel) (qb_cons (qe_var 1) qb_nil)) qa_nil)))) (qt_cons (qe_f (ok__law_cast tx) (hr.mono (by decide)) hg tx.m__law_cast tx.fu__law_cast.kp (kb__law_cast_2 tx) (takes_of rfl rfl rfl rfl) (qc_pos (qa_cons (qe_var 0) (qa_cons qe_int qa_nil)))) qt_nil)))
  (qss_cons (qs_asg (qe_ix (opd_ixA hr) (qe_var 1) (qe_var 2)) (qg_tup rfl (qgs_cons (qg_name 4 sc__law_near.nd) (qgs_cons (qg_name 5 sc__law_near.nd) qgs_nil))))
  (qss_cons (qs_if (qt_cmp (opd_eq hr) (qe_var 3) qe_int) (qss_cons (qs_ret (qe_op opd_add (qe_op opd_add (qe_slice (qe_var 1) qo_no (qo_so (qe_var 2))) (qe_tup (qa_cons (qe_tup (qa_cons (qe_var 4) (qa_cons (qe_if (qt_cmp opd_lt (qe_var 5) (qe_op opd_pow qe_int qe_int)) (qe_op opd_add (qe_var 5) qe_int) qe_int) qa_nil))) qa_nil))) (qe_slice (qe_var 1) (qo_so (qe_op opd_add (qe_var 2) qe_int)) qo_no)))
  qss_nil) qss_nil)
  (qss_cons (qs_if (qw_and (qt_cmp (opd_eq hr) (qe_var 3) qe_int) (qw_and1 (qt_cmp opd_gt (qe_callB (cd_len) tx.z_len (by decide +kernel) (qb_cons (qe_var 1) qb_nil)) qe_int))).pt (qss_cons (qs_ret (qe_op opd_add (qe_slice (qe_var 1) qo_no (qo_so (qe_var 2))) (qe_slice (qe_var 1) (qo_so (qe_op opd_add (qe_var 2) qe_int)) qo_no)))
  qss_nil) qss_nil)
  (qss_cons (qs_if (qw_and (qt_cmp (opd_eq hr) (qe_var 3) qe_int) (qw_and (qt_cmp (opd_eq hr) (qe_var 2) qe_int) (qw_and1 (qt_cmp opd_lt (qe_var 4) (qe_op opd_pow qe_int qe_int))))).pt (qss_cons (qs_ret (qe_op opd_add (qe_tup (qa_cons (qe_tup (qa_cons (qe_op opd_add (qe_var 4) qe_int) (qa_cons (qe_var 5) qa_nil))) qa_nil)) (qe_slice (qe_var 1) (qo_so qe_int) qo_no)))
  qss_nil) qss_nil)
  (qss_cons (qs_ret (qe_var 1))
  qss_nil))))))) (pure__law_near (txOf A K))
theorem sc__law_lot : FnScope (["pail", "most", "many", "found", "often", "k", "j"] : List Str) (["pail", "most"] : List Str) (defScope st__law_lot) := ⟨rfl, rfl, rfl, by decide +kernel, rfl, by decide +kernel, by decide +kernel⟩
theorem ok__law_lot (tx : Txt A K mg) : FnG P w K mg base 2 A.f__law_lot A.d__law_lot (["pail", "most"] : List Str) (spD (txOf A K) 2 sp__law_lot) :=
  fnG_ok (T := txOf A K) (k := 1) (r__law_lot (txOf A K)) tx.fu__law_lot sc__law_lot (fun cdv Ar outer s H E hr hg =>
  (qss_cons (qs_set 2 sc__law_lot.nd (qe_op opd_add qe_int (qe_f (ok__law_cast tx) (hr.mono (by decide)) hg tx.m__law_cast tx.fu__law_cast.kp (kb__law_cast_2 tx) (takes_of rfl rfl rfl rfl) (qc_pos (qa_cons (qe_var 0) (qa_cons (qe_var 1) qa_nil))))))
  (qss_cons (qs_if (qt_cmp (opd_eq hr) (qe_f (ok__law_cast tx) (hr.mono (by decide)) hg tx.m__law_cast tx.fu__law_cast.kp (kb__law_cast_2 tx) (takes_of rfl rfl rfl rfl) (qc_pos (qa_cons (qe_var 0) (qa_cons qe_int qa_nil)))) qe_int) (qss_cons (qs_ret (qe_rev (qe_callB (cd_sorted) tx.z_sorted (by decide +kernel) (qb_cons (qe_lc [("k", 5)] [0, 2] rfl sc__law_lot.nd (qi_range1 tx.z_range (qb_cons (qe_var 2) qb_nil)) (blkOk_by (N := (["pail", "most", "many", "found", "often", "k", "j"] : List Str)) (sc := defScope st__law_lot) (by decide +kernel)) (by decide) (fun _ _ _ _ _ => (qg_name 5 sc__law_lot.nd)) (fun _ _ _ _ _ => qts_nil) (fun _ _ _ _ _ => (qe_f (ok__law_cast tx) (hr.mono (by decide)) hg tx.m__law_cast tx.fu__law_cast.kp (kb__law_cast_2 tx) takes0 (qc_pos (qa_cons (qe_var 0) (qa_cons (qe_op opd_add (qe_var 2) qe_int) qa_nil)))))) qb_nil))))
  qss_nil) qss_nil)
  (qss_cons (qs_par2 3 4 rfl sc__law_lot.nd (qt_cons (qe_op opd_mul (qe_lst (qa_cons qe_int qa_nil)) (qe_var 2)) (qt_cons (qe_op opd_add qe_int (qe_f (ok__law_cast tx) (hr.mono (by decide)) hg tx.m__law_cast tx.fu__law_cast.kp (kb__law_cast_2 tx) (takes_of rfl rfl rfl rfl) (qc_pos (qa_cons (qe_var 0) (qa_cons qe_int qa_nil))))) qt_nil)))
  (qss_cons (qs_for (passes_of rfl) rfl (qi_range1 tx.z_range (qb_cons (qe_var 2) qb_nil)) (qg_name 5 sc__law_lot.nd)
  (qss_cons (qs_for (passes_of rfl) rfl (qi_range1 tx.z_range (qb_cons (qe_var 5) qb_nil)) (qg_name 6 sc__law_lot.nd)
  (qss_cons (qs_if (qt_cmp opd_lt (qe_f (ok__law_cast tx) (hr.mono (by decide)) hg tx.m__law_cast tx.fu__law_cast.kp (kb__law_cast_2 tx) (takes_of rfl rfl rfl rfl) (qc_pos (qa_cons (qe_var 0) (qa_cons qe_int qa_nil)))) (qe_var 4)) (qss_cons (qs_asgH (qe_tup (qa_cons (qe_op opd_add (qe_ix (opd_ixA hr) (qe_var 3) (qe_var 5)) qe_int) (qa_cons (qe_op opd_add (qe_ix (opd_ixA hr) (qe_var 3) (qe_var 6)) qe_int) qa_nil))) (qh_tup rfl (qhs_cons (qh_sub 3 hr (qe_var 5)) (qhs_cons (qh_sub 3 hr (qe_var 6)) qhs_nil))))
  qss_nil) qss_nil)
  qss_nil))
  qss_nil))
  (qss_cons (qs_ret (qe_rev (qe_callB (cd_sorted) tx.z_sorted (by decide +kernel) (qb_cons (qe_var 3) qb_nil))))
  qss_nil)))))) (pure__law_lot (txOf A K))
theorem sc_check_listed : FnScope (["value", "at", "degree", "seen"] : List Str) (["value"] : List Str) (defScope st_check_listed) := ⟨rfl, rfl, rfl, by decide +kernel, rfl, by decide +kernel, by decide +kernel⟩
theorem ok_check_listed (tx : Txt A K mg) : FnG P w K mg base 4 A.f_check_listed A.d_check_listed (["value"] : List Str) (spD (txOf A K) 1 sp_check_listed) :=
  fnG_ok (T := txOf A K) (k := 3) (r_check_listed (txOf A K)) tx.fu_check_listed sc_check_listed (fun cdv Ar outer s H E hr hg =>
  (qss_cons (qs_if (qw_or (qt_not (qt_truth (qe_isiT tx.is_tuple tx.z_isinstance tx.z_tuple (by decide +kernel) (qe_var 0)))) (qw_or1 (qt_cmp (opd_eq hr) (qe_callB (cd_len) tx.z_len (by decide +kernel) (qb_cons (qe_var 0) qb_nil)) qe_int))).pt (qss_cons qs_never
  qss_nil) qss_nil)
  (qss_cons (qs_for (passes_of rfl) rfl (qi_enum tx.z_enumerate (qe_var 0)) (qg_tup rfl (qgs_cons (qg_name 1 sc_check_listed.nd) (qgs_cons (qg_name 2 sc_check_listed.nd) qgs_nil)))
  (qss_cons (qs_if (qw_or (qt_cmp (opd_eq hr) (qe_var 1) (q_gint tx.c_MOST_LISTED)) (qw_or (qt_not (qt_truth (qe_f (ok_is_count tx) (hr.mono (by decide)) hg tx.m_is_count tx.fu_is_count.kp (kb_is_count_1 tx) (takes_of rfl rfl rfl rfl) (qc_pos (qa_cons (qe_var 2) qa_nil))))) (qw_or1 (qt_cmp opd_gt (qe_var 2) (q_gint tx.c_MOST_DEGREE))))).pt (qss_cons qs_never
  qss_nil) qss_nil)
  qss_nil))
  (qss_cons (qs_set 3 sc_check_listed.nd (qe_lst qa_nil))
  (qss_cons (qs_for (passes_of rfl) rfl (qi_enum tx.z_enumerate (qe_var 0)) (qg_tup rfl (qgs_cons (qg_name 1 sc_check_listed.nd) (qgs_cons (qg_name 2 sc_check_listed.nd) qgs_nil)))
  (qss_cons (qs_if (qt_cmp (opd_notinA hr) (qe_var 2) (qe_var 3)) (qss_cons (qs_wr 3 PySem.F.slot_list_append PySem.F.type_list_append mtd_app (qa_cons (qe_var 2) qa_nil))
  qss_nil) qss_nil)
  (qss_cons (qs_if (qt_cmp opd_gt (qe_callB (cd_len) tx.z_len (by decide +kernel) (qb_cons (qe_var 3) qb_nil)) (q_gint tx.c_MOST_KINDS)) (qss_cons qs_never
  qss_nil) qss_nil)
  qss_nil)))
  qss_nil))))) (pure_check_listed (txOf A K))
theorem sc_gathered : FnScope (["kinds", "table", "degree", "count"] : List Str) (["kinds"] : List Str) (defScope st_gathered) := ⟨rfl, rfl, rfl, by decide +kernel, rfl, by decide +kernel, by decide +kernel⟩
theorem ok_gathered (tx : Txt A K mg) : FnG P w K mg base 2 A.f_gathered A.d_gathered (["kinds"] : List Str) (spD (txOf A K) 1 sp_gathered) :=
  fnG_ok (T := txOf A K) (k := 1) (r_gathered (txOf A K)) tx.fu_gathered sc_gathered (fun cdv Ar outer s H E hr hg =>
  (qss_cons (qs_set 1 sc_gathered.nd qe_dnew)
  (qss_cons (qs_for (passes_of rfl) rfl (qi_any (qe_var 0)) (qg_tup rfl (qgs_cons (qg_name 2 sc_gathered.nd) (qgs_cons (qg_name 3 sc_gathered.nd) qgs_nil)))
  (qss_cons (qs_put 1 hr (qe_op opd_add (qe_get2 hr (qe_var 1) (qe_var 2) qe_int) (qe_var 3)) (qe_var 2))
  qss_nil))
  (qss_cons (qs_ret (qe_lc [("degree", 2)] [1] rfl sc_gathered.nd (qi_any (qe_callBR (cd_sortedR rfl) tx.z_sorted (by decide +kernel) (qb_cons (qe_var 1) qb_nil))) (blkOk_by (N := (["kinds", "table", "degree", "count"] : List Str)) (sc := defScope st_gathered) (by decide +kernel)) (by decide) (fun _ _ _ _ _ => (qg_name 2 sc_gathered.nd)) (fun _ _ _ _ _ => (qts_one (qt_cmp opd_gt (qe_ix (opd_ixA hr) (qe_var 1) (qe_var 2)) qe_int))) (fun _ _ _ _ _ => (qe_tup (qa_cons (qe_var 2) (qa_cons (qe_ix (opd_ixA hr) (qe_var 1) (qe_var 2)) qa_nil))))))
  qss_nil)))) (pure_gathered (txOf A K))
theorem sc_Row_listed : FnScope (["cls", "degrees", "degree"] : List Str) (["cls", "degrees"] : List Str) (defScope st_Row_listed) := ⟨rfl, rfl, rfl, by decide +kernel, rfl, by decide +kernel, by decide +kernel⟩
theorem ok_Row_listed (tx : Txt A K mg) : FnG P w K mg base 8 A.f_Row_listed A.d_Row_listed (["cls", "degrees"] : List Str) (spD (txOf A K) 2 sp_Row_listed) :=
  fnG_ok (T := txOf A K) (k := 7) (r_Row_listed (txOf A K)) tx.fu_Row_listed sc_Row_listed (fun cdv Ar outer s H E hr hg =>
  (qss_cons (qs_expr (qe_f (ok_check_listed tx) (hr.mono (by decide)) hg tx.m_check_listed tx.fu_check_listed.kp (kb_check_listed_1 tx) (takes_of rfl rfl rfl rfl) (qc_pos (qa_cons (qe_var 1) qa_nil))))
  (qss_cons (qs_ret (qe_mk tx.mk_Row (ok_Row___init__ tx) (hr.mono (by decide)) hg tx.m_Row (kb_Row___init___2 tx) (takes_of rfl rfl rfl rfl) (qc_pos (qa_cons (qe_callT (cd_tuple) tx.z_tuple (by decide +kernel) (qb_cons (qe_f (ok_gathered tx) (hr.mono (by decide)) hg tx.m_gathered tx.fu_gathered.kp (kb_gathered_1 tx) (takes_of rfl rfl rfl rfl) (qc_pos (qa_cons (qe_lc [("degree", 2)] [] rfl sc_Row_listed.nd (qi_any (qe_var 1)) (blkOk_by (N := (["cls", "degrees", "degree"] : List Str)) (sc := defScope st_Row_listed) (by decide +kernel)) (by decide) (fun _ _ _ _ _ => (qg_name 2 sc_Row_listed.nd)) (fun _ _ _ _ _ => qts_nil) (fun _ _ _ _ _ => (qe_tup (qa_cons (qe_var 2) (qa_cons qe_int qa_nil))))) qa_nil))) qb_nil)) qa_nil))))
  qss_nil))) (pure_Row_listed (txOf A K))
theorem sc__law_of : FnScope (["lot", "deg"] : List Str) (["lot"] : List Str) (defScope st__law_of) := ⟨rfl, rfl, rfl, by decide +kernel, rfl, by decide +kernel, by decide +kernel⟩
theorem ok__law_of (tx : Txt A K mg) : FnG P w K mg base 3 A.f__law_of A.d__law_of (["lot"] : List Str) (spD (txOf A K) 1 sp__law_of) :=
  fnG_ok (T := txOf A K) (k := 2) (r__law_of (txOf A K)) tx.fu__law_of sc__law_of (fun cdv Ar outer s H E hr hg =>
  (qss_cons (qs_ret (qe_f (ok__law_tidy tx) (hr.mono (by decide)) hg tx.m__law_tidy tx.fu__law_tidy.kp (kb__law_tidy_1 tx) (takes_of rfl rfl rfl rfl) (qc_pos (qa_cons (qe_lc [("deg", 1)] [] rfl sc__law_of.nd (qi_any (qe_var 0)) (blkOk_by (N := (["lot", "deg"] : List Str)) (sc := defScope st__law_of) (by decide +kernel)) (by decide) (fun _ _ _ _ _ => (qg_name 1 sc__law_of.nd)) (fun _ _ _ _ _ => qts_nil) (fun _ _ _ _ _ => (qe_tup (qa_cons (qe_var 1) (qa_cons qe_int qa_nil))))) qa_nil))))
  qss_nil)) (pure__law_of (txOf A K))
theorem sc_kind_lines : FnScope (["kinds", "degree", "count"] : List Str) (["kinds"] : List Str) (defScope st_kind_lines) := ⟨rfl, rfl, rfl, by decide +kernel, rfl, by decide +kernel, by decide +kernel⟩
theorem ok_kind_lines (tx : Txt A K mg) : FnG P w K mg base 2 A.f_kind_lines A.d_kind_lines (["kinds"] : List Str) (spD (txOf A K) 1 sp_kind_lines) :=
  fnG_ok (T := txOf A K) (k := 1) (r_kind_lines (txOf A K)) tx.fu_kind_lines sc_kind_lines (fun cdv Ar outer s H E hr hg =>
  (qss_cons (qs_ret (qe_lc [("degree", 1), ("count", 2)] [] rfl sc_kind_lines.nd (qi_any (qe_var 0)) (blkOk_by (N := (["kinds", "degree", "count"] : List Str)) (sc := defScope st_kind_lines) (by decide +kernel)) (by decide) (fun _ _ _ _ _ => (qg_tup rfl (qgs_cons (qg_name 1 sc_kind_lines.nd) (qgs_cons (qg_name 2 sc_kind_lines.nd) qgs_nil)))) (fun _ _ _ _ _ => qts_nil) (fun _ _ _ _ _ => (qe_js (qj_cons (qe_fmt (qe_var 1)) (qj_cons qe_str (qj_cons (qe_fmt (qe_var 2)) qj_nil)))))))
  qss_nil)) (pure_kind_lines (txOf A K))
theorem sc_Row___str__ : FnScope (["self"] : List Str) (["self"] : List Str) (defScope st_Row___str__) := ⟨rfl, rfl, rfl, by decide +kernel, rfl, by decide +kernel, by decide +kernel⟩
theorem ok_Row___str__ (tx : Txt A K mg) : FnG P w K mg base 3 A.f_Row___str__ A.d_Row___str__ (["self"] : List Str) (spD (txOf A K) 1 sp_Row___str__) :=
  fnG_ok (T := txOf A K) (k := 2) (r_Row___str__ (txOf A K)) tx.fu_Row___str__ sc_Row___str__ (fun cdv Ar outer s H E hr hg =>
  (qss_cons (qs_ret (qe_join qe_str (qe_lst (qa_cons qe_str (qa_star (qe_f (ok_kind_lines tx) (hr.mono (by decide)) hg tx.m_kind_lines tx.fu_kind_lines.kp (kb_kind_lines_1 tx) (takes_of rfl rfl rfl rfl) (qc_pos (qa_cons (qe_sl tx.scls_Row tx.sl_shape (qe_var 0)) qa_nil))) qa_nil)))))
  qss_nil)) (pure_Row___str__ (txOf A K))
theorem sc_Row_text : FnScope (["self"] : List Str) (["self"] : List Str) (defScope st_Row_text) := ⟨rfl, rfl, rfl, by decide +kernel, rfl, by decide +kernel, by decide +kernel⟩
theorem ok_Row_text (tx : Txt A K mg) : FnG P w K mg base 7 A.f_Row_text A.d_Row_text (["self"] : List Str) (spD (txOf A K) 1 sp_Row_text) :=
  fnG_ok (T := txOf A K) (k := 6) (r_Row_text (txOf A K)) tx.fu_Row_text sc_Row_text (fun cdv Ar outer s H E hr hg =>
  (qss_cons (qs_ret (qe_oneT (co_str (cn := 0) (ok_Row___str__ tx) (hr.mono (by decide)) hg (kb_Row___str___1 tx) tx.me_Row___str__.1 tx.me_Row___str__.2 (co_none (cd_str))) tx.z_str (by decide +kernel) (qe_var 0)))
  qss_nil)) (pure_Row_text (txOf A K))
theorem sc_Row___eq__ : FnScope (["self", "other"] : List Str) (["self", "other"] : List Str) (defScope st_Row___eq__) := ⟨rfl, rfl, rfl, by decide +kernel, rfl, by decide +kernel, by decide +kernel⟩
theorem ok_Row___eq__ (tx : Txt A K mg) : FnG P w K mg base 2 A.f_Row___eq__ A.d_Row___eq__ (["self", "other"] : List Str) (spD (txOf A K) 2 sp_Row___eq__) :=
  fnG_ok (T := txOf A K) (k := 1) (r_Row___eq__ (txOf A K)) tx.fu_Row___eq__ sc_Row___eq__ (fun cdv Ar outer s H E hr hg =>
  (qss_cons (qs_ret (qe_and (qe_isiC tx.is_Row tx.z_isinstance tx.m_Row (qe_var 1)) (qe_one (qe_cmp (opd_eq hr) (qe_sl tx.scls_Row tx.sl_shape (qe_var 0)) (qe_sl tx.scls_Row tx.sl_shape (qe_var 1))))))
  qss_nil)) (pure_Row___eq__ (txOf A K) rfl)
theorem sc__law_thing : FnScope (["pail", "menu"] : List Str) (["pail"] : List Str) (defScope st__law_thing) := ⟨rfl, rfl, rfl, by decide +kernel, rfl, by decide +kernel, by decide +kernel⟩
theorem ok__law_thing (tx : Txt A K mg) : FnG P w K mg base 3 A.f__law_thing A.d__law_thing (["pail"] : List Str) (spD (txOf A K) 1 sp__law_thing) :=
  fnG_ok (T := txOf A K) (k := 2) (r__law_thing (txOf A K)) tx.fu__law_thing sc__law_thing (fun cdv Ar outer s H E hr hg =>
  (qss_cons (qs_set 1 sc__law_thing.nd (qe_lst (qa_cons qe_non (qa_cons qe_bl (qa_cons qe_bl (qa_cons qe_int (qa_cons qe_int (qa_cons (qe_un opd_neg qe_int) (qa_cons qe_int (qa_cons (qe_op opd_pow qe_int qe_int) (qa_cons (qe_op opd_add (qe_op opd_pow qe_int qe_int) qe_int) (qa_cons (qe_op opd_pow qe_int qe_int) (qa_cons qe_str (qa_cons qe_str (qa_cons qe_str (qa_cons qe_str (qa_cons (qe_tup qa_nil) (qa_cons (qe_tup (qa_cons qe_int qa_nil)) qa_nil))))))))))))))))))
  (qss_cons (qs_set 1 sc__law_thing.nd (qe_op opd_add (qe_var 1) (qe_lst (qa_cons (qe_lst (qa_cons qe_int qa_nil)) (qa_cons qe_dnew (qa_cons (qe_dic (.cons kk_str ck_int ConK.nil)) (qa_cons (qe_tup (qa_cons qe_int (qa_cons qe_int qa_nil))) (qa_cons (qe_tup (qa_cons (qe_tup (qa_cons qe_int (qa_cons qe_int qa_nil))) qa_nil)) (qa_cons (qe_lst (qa_cons (qe_tup (qa_cons qe_int (qa_cons qe_int qa_nil))) qa_nil)) (qa_cons (qe_tup (qa_cons qe_str qa_nil)) (qa_cons (qe_tup (qa_cons qe_str (qa_cons qe_int qa_nil))) (qa_cons qe_str (qa_cons qe_str (qa_cons (qe_tup (qa_cons qe_non qa_nil)) qa_nil))))))))))))))
  (qss_cons (qs_ret (qe_f (ok__law_any_of tx) (hr.mono (by decide)) hg tx.m__law_any_of tx.fu__law_any_of.kp (kb__law_any_of_2 tx) (takes_of rfl rfl rfl rfl) (qc_pos (qa_cons (qe_var 0) (qa_cons (qe_op opd_add (qe_var 1) (qe_lst (qa_cons (qe_lst qa_nil) (qa_cons qe_str qa_nil)))) qa_nil)))))
  qss_nil)))) (pure__law_thing (txOf A K))
theorem sc_Row_kinds : FnScope (["self"] : List Str) (["self"] : List Str) (defScope st_Row_kinds) := ⟨rfl, rfl, rfl, by decide +kernel, rfl, by decide +kernel, by decide +kernel⟩
theorem ok_Row_kinds (tx : Txt A K mg) : FnG P w K mg base 2 A.f_Row_kinds A.d_Row_kinds (["self"] : List Str) (spD (txOf A K) 1 sp_Row_kinds) :=
  fnG_ok (T := txOf A K) (k := 1) (r_Row_kinds (txOf A K)) tx.fu_Row_kinds sc_Row_kinds (fun cdv Ar outer s H E hr hg =>
  (qss_cons (qs_ret (qe_sl tx.scls_Row tx.sl_shape (qe_var 0)))
  qss_nil)) (pure_Row_kinds (txOf A K))
theorem sc_places_of : FnScope (["kinds", "degree", "count"] : List Str) (["kinds"] : List Str) (defScope st_places_of) := ⟨rfl, rfl, rfl, by decide +kernel, rfl, by decide +kernel, by decide +kernel⟩
theorem ok_places_of (tx : Txt A K mg) : FnG P w K mg base 2 A.f_places_of A.d_places_of (["kinds"] : List Str) (spD (txOf A K) 1 sp_places_of) :=
  fnG_ok (T := txOf A K) (k := 1) (r_places_of (txOf A K)) tx.fu_places_of sc_places_of (fun cdv Ar outer s H E hr hg =>
  (qss_cons (qs_ret (qe_callB (cd_sum rfl) tx.z_sum (by decide +kernel) (qb_cons (qe_lc [("degree", 1), ("count", 2)] [] rfl sc_places_of.nd (qi_any (qe_var 0)) (blkOk_by (N := (["kinds", "degree", "count"] : List Str)) (sc := defScope st_places_of) (by decide +kernel)) (by decide) (fun _ _ _ _ _ => (qg_tup rfl (qgs_cons (qg_name 1 sc_places_of.nd) (qgs_cons (qg_name 2 sc_places_of.nd) qgs_nil)))) (fun _ _ _ _ _ => qts_nil) (fun _ _ _ _ _ => (qe_var 2))) qb_nil)))
  qss_nil)) (pure_places_of (txOf A K))
theorem sc_Row_places : FnScope (["self"] : List Str) (["self"] : List Str) (defScope st_Row_places) := ⟨rfl, rfl, rfl, by decide +kernel, rfl, by decide +kernel, by decide +kernel⟩
theorem ok_Row_places (tx : Txt A K mg) : FnG P w K mg base 3 A.f_Row_places A.d_Row_places (["self"] : List Str) (spD (txOf A K) 1 sp_Row_places) :=
  fnG_ok (T := txOf A K) (k := 2) (r_Row_places (txOf A K)) tx.fu_Row_places sc_Row_places (fun cdv Ar outer s H E hr hg =>
  (qss_cons (qs_ret (qe_f (ok_places_of tx) (hr.mono (by decide)) hg tx.m_places_of tx.fu_places_of.kp (kb_places_of_1 tx) (takes_of rfl rfl rfl rfl) (qc_pos (qa_cons (qe_sl tx.scls_Row tx.sl_shape (qe_var 0)) qa_nil))))
  qss_nil)) (pure_Row_places (txOf A K))
theorem sc__law_right : FnScope (["pail", "some", "made", "turn", "lot", "near", "far", "value", "same"] : List Str) (["pail"] : List Str) (defScope st__law_right) := ⟨rfl, rfl, rfl, by decide +kernel, rfl, by decide +kernel, by decide +kernel⟩
theorem ok__law_right (tx : Txt A K mg) : FnG P w K mg base 11 A.f__law_right A.d__law_right (["pail"] : List Str) (spD (txOf A K) 1 sp__law_right) :=
  fnG_ok (T := txOf A K) (k := 10) (r__law_right (txOf A K)) tx.fu__law_right sc__law_right (fun cdv Ar outer s H E hr hg =>
  (qss_cons (qs_set 1 sc__law_right.nd (qe_f (ok__law_drawn tx) (hr.mono (by decide)) hg tx.m__law_drawn tx.fu__law_drawn.kp (kb__law_drawn_1 tx) (takes_of rfl rfl rfl rfl) (qc_pos (qa_cons (qe_var 0) qa_nil))))
  (qss_cons (qs_set 2 sc__law_right.nd (qe_lst (qa_cons (qe_mk tx.mk_Row (ok_Row___init__ tx) (hr.mono (by decide)) hg tx.m_Row (kb_Row___init___2 tx) (takes_of rfl rfl rfl rfl) (qc_pos (qa_cons (qe_var 1) qa_nil))) (qa_cons (qe_cm (cn := 0) tx.cr_Row tx.cm_Row_read (ok_Row_read tx) (hr.mono (by decide)) hg (kb_Row_read_2 tx) (takes_of rfl rfl rfl rfl) tx.m_Row (qc_pos (qa_cons (qe_f (ok__law_sheet tx) (hr.mono (by decide)) hg tx.m__law_sheet tx.fu__law_sheet.kp (kb__law_sheet_1 tx) (takes_of rfl rfl rfl rfl) (qc_pos (qa_cons (qe_var 1) qa_nil))) qa_nil))) qa_nil))))
  (qss_cons (qs_for (passes_of rfl) rfl (qi_range1 tx.z_range (qb_cons qe_int qb_nil)) (qg_name 3 sc__law_right.nd)
  (qss_cons (qs_wr 2 PySem.F.slot_list_append PySem.F.type_list_append mtd_app (qa_cons (qe_f (ok__law_built tx) (hr.mono (by decide)) hg tx.m__law_built tx.fu__law_built.kp (kb__law_built_2 tx) (takes_of rfl rfl rfl rfl) (qc_pos (qa_cons (qe_var 0) (qa_cons (qe_f (ok__law_near tx) (hr.mono (by decide)) hg tx.m__law_near tx.fu__law_near.kp (kb__law_near_2 tx) (takes_of rfl rfl rfl rfl) (qc_pos (qa_cons (qe_var 0) (qa_cons (qe_var 1) qa_nil)))) qa_nil)))) qa_nil))
  qss_nil))
  (qss_cons (qs_set 4 sc__law_right.nd (qe_f (ok__law_lot tx) (hr.mono (by decide)) hg tx.m__law_lot tx.fu__law_lot.kp (kb__law_lot_2 tx) (takes_of rfl rfl rfl rfl) (qc_pos (qa_cons (qe_var 0) (qa_cons qe_int qa_nil)))))
  (qss_cons (qs_set 2 sc__law_right.nd (qe_op opd_add (qe_var 2) (qe_lst (qa_cons (qe_mk tx.mk_Row (ok_Row___init__ tx) (hr.mono (by decide)) hg tx.m_Row (kb_Row___init___2 tx) (takes_of rfl rfl rfl rfl) (qc_pos (qa_cons (qe_f (ok__law_of tx) (hr.mono (by decide)) hg tx.m__law_of tx.fu__law_of.kp (kb__law_of_1 tx) (takes_of rfl rfl rfl rfl) (qc_pos (qa_cons (qe_var 4) qa_nil))) qa_nil))) (qa_cons (qe_cm (cn := 0) tx.cr_Row tx.cm_Row_listed (ok_Row_listed tx) (hr.mono (by decide)) hg (kb_Row_listed_2 tx) (takes_of rfl rfl rfl rfl) tx.m_Row (qc_pos (qa_cons (qe_callT (cd_tuple) tx.z_tuple (by decide +kernel) (qb_cons (qe_rev (qe_var 4)) qb_nil)) qa_nil))) qa_nil)))))
  (qss_cons (qs_for (passes_of rfl) rfl (qi_any (qe_var 2)) (qg_name 5 sc__law_right.nd)
  (qss_cons (qs_for (passes_of rfl) rfl (qi_any (qe_var 2)) (qg_name 6 sc__law_right.nd)
  (qss_cons (qs_set 8 sc__law_right.nd (qe_cmp (opd_eq hr) (qe_prop tx.scls_Row tx.pr_Row_text.1 tx.pr_Row_text.2.1 tx.pr_Row_text.2.2.1 tx.pr_Row_text.2.2.2 (ok_Row_text tx) (hr.mono (by decide)) hg (kb_Row_text_1 tx) (qe_var 5)) (qe_prop tx.scls_Row tx.pr_Row_text.1 tx.pr_Row_text.2.1 tx.pr_Row_text.2.2.1 tx.pr_Row_text.2.2.2 (ok_Row_text tx) (hr.mono (by decide)) hg (kb_Row_text_1 tx) (qe_var 6))))
  (qss_cons (qs_if (qt_cmp (opd_ne hr) (qe_callB (cd_repr hr hg) tx.z_repr (by decide +kernel) (qb_cons (qe_lst (qa_cons (qe_cmpO (oq_eq (cn := 0) (ok_Row___eq__ tx) (hr.mono (by decide)) hg (kb_Row___eq___2 tx) tx.me_Row___eq__.1 tx.me_Row___eq__.2 (oq_none (opd_eq hr))) (qe_var 5) (qe_var 6)) (qa_cons (qe_cmpO (oq_ne (cn := 0) (ok_Row___eq__ tx) (hr.mono (by decide)) hg (kb_Row___eq___2 tx) tx.me_Row___eq__.1 tx.me_Row___eq__.2 tx.ne_Row.1 tx.ne_Row.2 (oq_none (opd_ne hr))) (qe_var 5) (qe_var 6)) qa_nil))) qb_nil)) (qe_callB (cd_repr hr hg) tx.z_repr (by decide +kernel) (qb_cons (qe_lst (qa_cons (qe_var 8) (qa_cons (qe_not (qe_var 8)) qa_nil))) qb_nil))) (qss_cons (qs_ret qe_bl)
  qss_nil) qss_nil)
  qss_nil)))
  (qss_cons (qs_for (passes_of rfl) rfl (qi_any (qe_lst (qa_cons qe_non (qa_cons (qe_prop tx.scls_Row tx.pr_Row_text.1 tx.pr_Row_text.2.1 tx.pr_Row_text.2.2.1 tx.pr_Row_text.2.2.2 (ok_Row_text tx) (hr.mono (by decide)) hg (kb_Row_text_1 tx) (qe_var 5)) (qa_cons (qe_prop tx.scls_Row tx.pr_Row_kinds.1 tx.pr_Row_kinds.2.1 tx.pr_Row_kinds.2.2.1 tx.pr_Row_kinds.2.2.2 (ok_Row_kinds tx) (hr.mono (by decide)) hg (kb_Row_kinds_1 tx) (qe_var 5)) (qa_cons (qe_prop tx.scls_Row tx.pr_Row_places.1 tx.pr_Row_places.2.1 tx.pr_Row_places.2.2.1 tx.pr_Row_places.2.2.2 (ok_Row_places tx) (hr.mono (by decide)) hg (kb_Row_places_1 tx) (qe_var 5)) (qa_cons (qe_lst (qa_cons (qe_prop tx.scls_Row tx.pr_Row_kinds.1 tx.pr_Row_kinds.2.1 tx.pr_Row_kinds.2.2.1 tx.pr_Row_kinds.2.2.2 (ok_Row_kinds tx) (hr.mono (by decide)) hg (kb_Row_kinds_1 tx) (qe_var 5)) qa_nil)) (qa_cons (qe_f (ok__law_thing tx) (hr.mono (by decide)) hg tx.m__law_thing tx.fu__law_thing.kp (kb__law_thing_1 tx) (takes_of rfl rfl rfl rfl) (qc_pos (qa_cons (qe_var 0) qa_nil))) (qa_cons (qe_tup (qa_cons (qe_var 5) qa_nil)) (qa_cons (qe_lst (qa_cons (qe_var 5) qa_nil)) qa_nil)))))))))) (qg_name 7 sc__law_right.nd)
  (qss_cons (qs_if (qw_or (qt_cmpO (oq_eq (cn := 0) (ok_Row___eq__ tx) (hr.mono (by decide)) hg (kb_Row___eq___2 tx) tx.me_Row___eq__.1 tx.me_Row___eq__.2 (oq_none (opd_eq hr))) (qe_var 5) (qe_var 7)) (qw_or (qt_not (qt_cmpO (oq_ne (cn := 0) (ok_Row___eq__ tx) (hr.mono (by decide)) hg (kb_Row___eq___2 tx) tx.me_Row___eq__.1 tx.me_Row___eq__.2 tx.ne_Row.1 tx.ne_Row.2 (oq_none (opd_ne hr))) (qe_var 5) (qe_var 7))) (qw_or1 (qt_cmpR (or_eq (cn := 0) (ok_Row___eq__ tx) (hr.mono (by decide)) hg (kb_Row___eq___2 tx) tx.me_Row___eq__.1 tx.me_Row___eq__.2 tx.nt_Row (oq_none (opd_eq hr))) (qe_var 7) (qe_var 5))))).pt (qss_cons (qs_ret qe_bl)
  qss_nil) qss_nil)
  qss_nil))
  (qss_cons (qs_if (qw_or (qt_cmp opd_lt (qe_callB (cd_len) tx.z_len (by decide +kernel) (qb_cons (qe_lc [("far", 6)] [5] rfl sc__law_right.nd (qi_any (qe_var 2)) (blkOk_by (N := (["pail", "some", "made", "turn", "lot", "near", "far", "value", "same"] : List Str)) (sc := defScope st__law_right) (by decide +kernel)) (by decide) (fun _ _ _ _ _ => (qg_name 6 sc__law_right.nd)) (fun _ _ _ _ _ => (qts_one (qt_cmpO (oq_eq (cn := 0) (ok_Row___eq__ tx) (hr.mono (by decide)) hg (kb_Row___eq___2 tx) tx.me_Row___eq__.1 tx.me_Row___eq__.2 (oq_none (opd_eq hr))) (qe_var 6) (qe_var 5)))) (fun _ _ _ _ _ => (qe_var 6))) qb_nil)) qe_int) (qw_or1 (qt_ni (on_in (cn := 0) (ok_Row___eq__ tx) (hr.mono (by decide)) hg (kb_Row___eq___2 tx) tx.me_Row___eq__.1 tx.me_Row___eq__.2) (qe_var 5) (qe_var 2)))).pt (qss_cons (qs_ret qe_bl)
  qss_nil) qss_nil)
  qss_nil))))
  (qss_cons (qs_ret (qe_cmp (opd_eq hr) (qe_callB (cd_repr hr hg) tx.z_repr (by decide +kernel) (qb_cons (qe_prop tx.scls_Row tx.pr_Row_kinds.1 tx.pr_Row_kinds.2.1 tx.pr_Row_kinds.2.2.1 tx.pr_Row_kinds.2.2.2 (ok_Row_kinds tx) (hr.mono (by decide)) hg (kb_Row_kinds_1 tx) (qe_ix (opd_ixA hr) (qe_var 2) qe_int)) qb_nil)) (qe_callB (cd_repr hr hg) tx.z_repr (by decide +kernel) (qb_cons (qe_var 1) qb_nil))))
  qss_nil)))))))) (pure__law_right (txOf A K))
theorem sc__law_begun : FnScope (["script", "turn", "own", "state", "cell"] : List Str) (["script", "turn"] : List Str) (defScope st__law_begun) := ⟨rfl, rfl, rfl, by decide +kernel, rfl, by decide +kernel, by decide +kernel⟩
theorem ok__law_begun (tx : Txt A K mg) : FnG P w K mg base 2 A.f__law_begun A.d__law_begun (["script", "turn"] : List Str) (spD (txOf A K) 2 sp__law_begun) :=
  fnG_ok (T := txOf A K) (k := 1) (r__law_begun (txOf A K)) tx.fu__law_begun sc__law_begun (fun cdv Ar outer s H E hr hg =>
  (qss_cons (qs_set 2 sc__law_begun.nd (qe_if (qt_cmp opd_lt (qe_var 1) (qe_callB (cd_len) tx.z_len (by decide +kernel) (qb_cons (qe_var 0) qb_nil))) (qe_ix (opd_ixA hr) (qe_var 0) (qe_var 1)) qe_int))
  (qss_cons (qs_set 3 sc__law_begun.nd (qe_op opd_add qe_int (qe_op opd_mul qe_int (qe_var 1))))
  (qss_cons (qs_for (passes_of rfl) rfl (qi_any (qe_slice (qe_var 0) qo_no (qo_so qe_int))) (qg_name 4 sc__law_begun.nd)
  (qss_cons (qs_set 3 sc__law_begun.nd (qe_op opd_mod (qe_callT (cd_int) tx.z_int (by decide +kernel) (qb_cons (qe_op opd_add (qe_op opd_add (qe_op opd_mul (qe_var 3) qe_int) (qe_op opd_mul (qe_var 4) qe_int)) qe_int) qb_nil)) qe_int))
  qss_nil))
  (qss_cons (qs_ret (qe_lst (qa_cons (qe_if (qw_or (qt_cmp opd_lt (qe_var 2) qe_int) (qw_or1 (qt_cmp opd_ge (qe_var 2) (qe_op opd_pow qe_int qe_int)))).pt (qe_callB (cd_abs) tx.z_abs (by decide +kernel) (qb_cons (qe_var 2) qb_nil)) qe_int) (qa_cons (qe_op opd_mod (qe_callT (cd_int) tx.z_int (by decide +kernel) (qb_cons (qe_op opd_add (qe_op opd_add (qe_op opd_mul (qe_var 3) qe_int) (qe_op opd_mul (qe_var 2) (qe_var 2))) (qe_op opd_mul qe_int (qe_var 1))) qb_nil)) qe_int) (qa_cons qe_int qa_nil)))))
  qss_nil))))) (pure__law_begun (txOf A K))
theorem sc_law : FnScope (["script", "turn"] : List Str) (["script"] : List Str) (defScope st_law) := ⟨rfl, rfl, rfl, by decide +kernel, rfl, by decide +kernel, by decide +kernel⟩
theorem ok_law (tx : Txt A K mg) : FnG P w K mg base 12 A.f_law A.d_law (["script"] : List Str) (spD (txOf A K) 1 sp_law) :=
  fnG_ok (T := txOf A K) (k := 11) (r_law (txOf A K)) tx.fu_law sc_law (fun cdv Ar outer s H E hr hg =>
  (qss_cons (qs_ret (qe_callB (cd_all rfl) tx.z_all (by decide +kernel) (qb_cons (qe_lc [("turn", 1)] [0] rfl sc_law.nd (qi_range1 tx.z_range (qb_cons (qe_callB (cd_max rfl) tx.z_max (by decide +kernel) (qb_cons qe_int (qb_cons (qe_callB (cd_min rfl) tx.z_min (by decide +kernel) (qb_cons (qe_callB (cd_len) tx.z_len (by decide +kernel) (qb_cons (qe_var 0) qb_nil)) (qb_cons qe_int qb_nil))) qb_nil))) qb_nil)) (blkOk_by (N := (["script", "turn"] : List Str)) (sc := defScope st_law) (by decide +kernel)) (by decide) (fun _ _ _ _ _ => (qg_name 1 sc_law.nd)) (fun _ _ _ _ _ => qts_nil) (fun _ _ _ _ _ => (qe_turn (ok__law_right tx) (hr.mono (by decide)) hg tx.m__law_right tx.fu__law_right.kp (kb__law_right_1 tx) (ok__law_begun tx) (hr.mono (by decide)) tx.m__law_begun tx.fu__law_begun.kp (kb__law_begun_2 tx) takes0 (qc_pos (qa_cons (qe_var 0) (qa_cons (qe_var 1) qa_nil)))))) qb_nil)))
  qss_nil)) (pure_law (txOf A K) rfl)
end
theorem all_mk {l : PySem.W.OpenLaw} {w : World} {K : Frag} {h : Heap} {mg : Str → Option Value} {fa C_Row p_shape f__law_cast f__law_any_of f__law_vast f__law_tidy f__law_drawn f_written_count f_is_integer f_is_count f_is_kind f_text_kind f_wrong_kind f_Row___init__ f_text_row f_Row_read p_Row_read f__law_sheet f__law_built f__law_near f__law_lot f_check_listed f_gathered f_Row_listed p_Row_listed f__law_of f_kind_lines f_Row___str__ f_Row_text p_Row_text f_Row___eq__ f__law_thing f_Row_kinds p_Row_kinds f_places_of f_Row_places p_Row_places f__law_right f__law_begun f_law : Addr} (X : K.In h) (G : h.Ns mainGlobals mg) (hfa : mg "law" = some (.ref fa))
    {tk_MOST_KINDS tk_DIGITS tk_MOST_DEGREE tk_MOST_COUNT tk_MOST_LISTED : Tok}
    {rs_Row_read rs_Row_listed rs_Row_text rs_Row_kinds rs_Row_places : List Value}
    {oc__law_cast kV__law_cast dc__law_cast pm__law_cast cd__law_cast ct__law_cast oc__law_any_of kV__law_any_of dc__law_any_of pm__law_any_of cd__law_any_of ct__law_any_of oc__law_vast kV__law_vast dc__law_vast pm__law_vast cd__law_vast ct__law_vast oc__law_tidy kV__law_tidy dc__law_tidy pm__law_tidy cd__law_tidy ct__law_tidy oc__law_drawn kV__law_drawn dc__law_drawn pm__law_drawn cd__law_drawn ct__law_drawn oc_written_count kV_written_count dc_written_count pm_written_count cd_written_count ct_written_count oc_is_integer kV_is_integer dc_is_integer pm_is_integer cd_is_integer ct_is_integer oc_is_count kV_is_count dc_is_count pm_is_count cd_is_count ct_is_count oc_is_kind kV_is_kind dc_is_kind pm_is_kind cd_is_kind ct_is_kind oc_text_kind kV_text_kind dc_text_kind pm_text_kind cd_text_kind ct_text_kind oc_wrong_kind kV_wrong_kind dc_wrong_kind pm_wrong_kind cd_wrong_kind ct_wrong_kind oc_Row___init__ kV_Row___init__ dc_Row___init__ pm_Row___init__ cd_Row___init__ ct_Row___init__ oc_text_row kV_text_row dc_text_row pm_text_row cd_text_row ct_text_row oc_Row_read kV_Row_read dc_Row_read pm_Row_read cd_Row_read ct_Row_read oc__law_sheet kV__law_sheet dc__law_sheet pm__law_sheet cd__law_sheet ct__law_sheet oc__law_built kV__law_built dc__law_built pm__law_built cd__law_built ct__law_built oc__law_near kV__law_near dc__law_near pm__law_near cd__law_near ct__law_near oc__law_lot kV__law_lot dc__law_lot pm__law_lot cd__law_lot ct__law_lot oc_check_listed kV_check_listed dc_check_listed pm_check_listed cd_check_listed ct_check_listed oc_gathered kV_gathered dc_gathered pm_gathered cd_gathered ct_gathered oc_Row_listed kV_Row_listed dc_Row_listed pm_Row_listed cd_Row_listed ct_Row_listed oc__law_of kV__law_of dc__law_of pm__law_of cd__law_of ct__law_of oc_kind_lines kV_kind_lines dc_kind_lines pm_kind_lines cd_kind_lines ct_kind_lines oc_Row___str__ kV_Row___str__ dc_Row___str__ pm_Row___str__ cd_Row___str__ ct_Row___str__ oc_Row_text kV_Row_text dc_Row_text pm_Row_text cd_Row_text ct_Row_text oc_Row___eq__ kV_Row___eq__ dc_Row___eq__ pm_Row___eq__ cd_Row___eq__ ct_Row___eq__ oc__law_thing kV__law_thing dc__law_thing pm__law_thing cd__law_thing ct__law_thing oc_Row_kinds kV_Row_kinds dc_Row_kinds pm_Row_kinds cd_Row_kinds ct_Row_kinds oc_places_of kV_places_of dc_places_of pm_places_of cd_places_of ct_places_of oc_Row_places kV_Row_places dc_Row_places pm_Row_places cd_Row_places ct_Row_places oc__law_right kV__law_right dc__law_right pm__law_right cd__law_right ct__law_right oc__law_begun kV__law_begun dc__law_begun pm__law_begun cd__law_begun ct__law_begun oc_law kV_law dc_law pm_law cd_law ct_law : Value}
    {od__law_cast an__law_cast od__law_any_of an__law_any_of od__law_vast an__law_vast od__law_tidy an__law_tidy od__law_drawn an__law_drawn od_written_count an_written_count od_is_integer an_is_integer od_is_count an_is_count od_is_kind an_is_kind od_text_kind an_text_kind od_wrong_kind an_wrong_kind od_Row___init__ an_Row___init__ od_text_row an_text_row od_Row_read an_Row_read od__law_sheet an__law_sheet od__law_built an__law_built od__law_near an__law_near od__law_lot an__law_lot od_check_listed an_check_listed od_gathered an_gathered od_Row_listed an_Row_listed od__law_of an__law_of od_kind_lines an_kind_lines od_Row___str__ an_Row___str__ od_Row_text an_Row_text od_Row___eq__ an_Row___eq__ od__law_thing an__law_thing od_Row_kinds an_Row_kinds od_places_of an_places_of od_Row_places an_Row_places od__law_right an__law_right od__law_begun an__law_begun od_law an_law : Option Addr}
    {os__law_cast os__law_any_of os__law_vast os__law_tidy os__law_drawn os_written_count os_is_integer os_is_count os_is_kind os_text_kind os_wrong_kind os_Row___init__ os_text_row os_Row_read os__law_sheet os__law_built os__law_near os__law_lot os_check_listed os_gathered os_Row_listed os__law_of os_kind_lines os_Row___str__ os_Row_text os_Row___eq__ os__law_thing os_Row_kinds os_places_of os_Row_places os__law_right os__law_begun os_law : Array (Option Value)}
    (m_law : nsIn K mainGlobals "law" = some (some (.ref f_law)))
    (m_Row : nsIn K mainGlobals "Row" = some (some (.ref C_Row)))
    (pg_Row : plainGet K C_Row Str.empty = true)
    (ic_Row : isClsIn K C_Row = true)
    (po_Row : plainOver K C_Row = true)
    (sa_Row : findIn K (.ref C_Row) "__setattr__" = some (some (.builtin "object.__setattr__")))
    (z_all : nsIn K mainGlobals "all" = some (none))
    (z_range : nsIn K mainGlobals "range" = some (none))
    (z_max : nsIn K mainGlobals "max" = some (none))
    (z_min : nsIn K mainGlobals "min" = some (none))
    (z_len : nsIn K mainGlobals "len" = some (none))
    (m__law_cast : nsIn K mainGlobals "_law_cast" = some (some (.ref f__law_cast)))
    (m__law_any_of : nsIn K mainGlobals "_law_any_of" = some (some (.ref f__law_any_of)))
    (z_int : nsIn K mainGlobals "int" = some (none))
    (m__law_vast : nsIn K mainGlobals "_law_vast" = some (some (.ref f__law_vast)))
    (z_tuple : nsIn K mainGlobals "tuple" = some (none))
    (z_sorted : nsIn K mainGlobals "sorted" = some (none))
    (z_list : nsIn K mainGlobals "list" = some (none))
    (m__law_tidy : nsIn K mainGlobals "_law_tidy" = some (some (.ref f__law_tidy)))
    (m__law_drawn : nsIn K mainGlobals "_law_drawn" = some (some (.ref f__law_drawn)))
    (z_isinstance : nsIn K mainGlobals "isinstance" = some (none))
    (z_str : nsIn K mainGlobals "str" = some (none))
    (c_MOST_KINDS : nsIn K mainGlobals "MOST_KINDS" = some (some (.int 10 tk_MOST_KINDS)))
    (c_DIGITS : nsIn K mainGlobals "DIGITS" = some (some (.str "0123456789" tk_DIGITS)))
    (m_written_count : nsIn K mainGlobals "written_count" = some (some (.ref f_written_count)))
    (z_bool : nsIn K mainGlobals "bool" = some (none))
    (m_is_integer : nsIn K mainGlobals "is_integer" = some (some (.ref f_is_integer)))
    (m_is_count : nsIn K mainGlobals "is_count" = some (some (.ref f_is_count)))
    (c_MOST_DEGREE : nsIn K mainGlobals "MOST_DEGREE" = some (some (.int 10000000000000000000000000000000 tk_MOST_DEGREE)))
    (c_MOST_COUNT : nsIn K mainGlobals "MOST_COUNT" = some (some (.int 1000000000000000000000000000000 tk_MOST_COUNT)))
    (m_is_kind : nsIn K mainGlobals "is_kind" = some (some (.ref f_is_kind)))
    (m_text_kind : nsIn K mainGlobals "text_kind" = some (some (.ref f_text_kind)))
    (z_enumerate : nsIn K mainGlobals "enumerate" = some (none))
    (m_wrong_kind : nsIn K mainGlobals "wrong_kind" = some (some (.ref f_wrong_kind)))
    (sa1_shape : findIn K (.ref C_Row) "shape" = some (some (.ref p_shape)))
    (sa2_shape : specialIn K (.ref p_shape) "__get__" = some (some (.builtin "member_descriptor.__get__")))
    (sa3_shape : takesIn K (.ref p_shape) = some true)
    (sa4_shape : typeIn K (.ref p_shape) = some (.type "member_descriptor"))
    (sa5_shape : slotIn K p_shape C_Row = some 0)
    (mk0_Row : makesIn K C_Row = true)
    (mk1_Row : findIn K (.ref C_Row) "__init__" = some (some (.ref f_Row___init__)))
    (mk2_Row : isFn K (.ref f_Row___init__) = true)
    (mk3_Row : keepIn K (.ref C_Row) = true)
    (m_text_row : nsIn K mainGlobals "text_row" = some (some (.ref f_text_row)))
    (cr0_Row : readsIn K C_Row (.type "type") = true)
    (cr1_Row : specialIn K (.ref C_Row) "__getattribute__" = some (some (.builtin "type.__getattribute__")))
    (cm0_Row_read : PySem.W.findCls K (.ref C_Row) (.type "type") "read" = some (.get (.builtin "classmethod.__get__") (.ref p_Row_read) .none (.ref C_Row)))
    (cm1_Row_read : recIn K p_Row_read "classmethod" = some (.ref f_Row_read :: rs_Row_read))
    (cm2_Row_read : PySem.W.fnIn K f_Row_read = true)
    (m__law_sheet : nsIn K mainGlobals "_law_sheet" = some (some (.ref f__law_sheet)))
    (m__law_built : nsIn K mainGlobals "_law_built" = some (some (.ref f__law_built)))
    (m__law_near : nsIn K mainGlobals "_law_near" = some (some (.ref f__law_near)))
    (m__law_lot : nsIn K mainGlobals "_law_lot" = some (some (.ref f__law_lot)))
    (c_MOST_LISTED : nsIn K mainGlobals "MOST_LISTED" = some (some (.int 1000 tk_MOST_LISTED)))
    (m_check_listed : nsIn K mainGlobals "check_listed" = some (some (.ref f_check_listed)))
    (m_gathered : nsIn K mainGlobals "gathered" = some (some (.ref f_gathered)))
    (cm0_Row_listed : PySem.W.findCls K (.ref C_Row) (.type "type") "listed" = some (.get (.builtin "classmethod.__get__") (.ref p_Row_listed) .none (.ref C_Row)))
    (cm1_Row_listed : recIn K p_Row_listed "classmethod" = some (.ref f_Row_listed :: rs_Row_listed))
    (cm2_Row_listed : PySem.W.fnIn K f_Row_listed = true)
    (m__law_of : nsIn K mainGlobals "_law_of" = some (some (.ref f__law_of)))
    (m_kind_lines : nsIn K mainGlobals "kind_lines" = some (some (.ref f_kind_lines)))
    (me0_Row___str__ : findIn K (.ref C_Row) "__str__" = some (some (.ref f_Row___str__)))
    (me1_Row___str__ : isFn K (.ref f_Row___str__) = true)
    (pr0_Row_text : findIn K (.ref C_Row) "text" = some (some (.ref p_Row_text)))
    (pr1_Row_text : specialIn K (.ref p_Row_text) "__get__" = some (some (.builtin "property.__get__")))
    (pr2_Row_text : takesIn K (.ref p_Row_text) = some true)
    (pr3_Row_text : recIn K p_Row_text "property" = some (.ref f_Row_text :: rs_Row_text))
    (z_repr : nsIn K mainGlobals "repr" = some (none))
    (me0_Row___eq__ : findIn K (.ref C_Row) "__eq__" = some (some (.ref f_Row___eq__)))
    (me1_Row___eq__ : isFn K (.ref f_Row___eq__) = true)
    (ne_Row : findIn K (.ref C_Row) "__ne__" = some (some (.builtin "object.__ne__")))
    (co_Row : mroIn K C_Row (.type "object") = some true)
    (m__law_thing : nsIn K mainGlobals "_law_thing" = some (some (.ref f__law_thing)))
    (pr0_Row_kinds : findIn K (.ref C_Row) "kinds" = some (some (.ref p_Row_kinds)))
    (pr1_Row_kinds : specialIn K (.ref p_Row_kinds) "__get__" = some (some (.builtin "property.__get__")))
    (pr2_Row_kinds : takesIn K (.ref p_Row_kinds) = some true)
    (pr3_Row_kinds : recIn K p_Row_kinds "property" = some (.ref f_Row_kinds :: rs_Row_kinds))
    (z_sum : nsIn K mainGlobals "sum" = some (none))
    (m_places_of : nsIn K mainGlobals "places_of" = some (some (.ref f_places_of)))
    (pr0_Row_places : findIn K (.ref C_Row) "places" = some (some (.ref p_Row_places)))
    (pr1_Row_places : specialIn K (.ref p_Row_places) "__get__" = some (some (.builtin "property.__get__")))
    (pr2_Row_places : takesIn K (.ref p_Row_places) = some true)
    (pr3_Row_places : recIn K p_Row_places "property" = some (.ref f_Row_places :: rs_Row_places))
    (km_Row_NoneType : mroIn K C_Row (.type "NoneType") = some false)
    (km_Row_bool : mroIn K C_Row (.type "bool") = some false)
    (km_Row_int : mroIn K C_Row (.type "int") = some false)
    (km_Row_str : mroIn K C_Row (.type "str") = some false)
    (km_Row_list : mroIn K C_Row (.type "list") = some false)
    (km_Row_tuple : mroIn K C_Row (.type "tuple") = some false)
    (km_Row_dict : mroIn K C_Row (.type "dict") = some false)
    (z_abs : nsIn K mainGlobals "abs" = some (none))
    (m__law_right : nsIn K mainGlobals "_law_right" = some (some (.ref f__law_right)))
    (m__law_begun : nsIn K mainGlobals "_law_begun" = some (some (.ref f__law_begun)))
    (z_divmod : nsIn K mainGlobals "divmod" = some (none))
    (ca_Row : findIn K (.ref C_Row) "__class__" = some (some (.builtin "object.__class__")))
    (cn : specialIn K (.builtin "object.__class__") "__get__" = some (some (.builtin "getset_descriptor.__get__")))
    (ct : takesIn K (.builtin "object.__class__") = some true)
    (ty_Row : typeIn K (.ref C_Row) = some (.type "type"))
    (fl__law_cast : K.lookup f__law_cast = some ⟨oc__law_cast, od__law_cast, .func (PySem.W.fnOf "_law_cast" "_law_cast" (defArgs st__law_cast) (defBody st__law_cast) (defScope st__law_cast) .none kV__law_cast dc__law_cast pm__law_cast an__law_cast cd__law_cast ct__law_cast), os__law_cast⟩)
    (fc__law_cast : PySem.W.codeIn K cd__law_cast "_law_cast" = true)
    (fk__law_cast : PySem.W.keepIn K (.ref f__law_cast) = true)
    (fl__law_any_of : K.lookup f__law_any_of = some ⟨oc__law_any_of, od__law_any_of, .func (PySem.W.fnOf "_law_any_of" "_law_any_of" (defArgs st__law_any_of) (defBody st__law_any_of) (defScope st__law_any_of) .none kV__law_any_of dc__law_any_of pm__law_any_of an__law_any_of cd__law_any_of ct__law_any_of), os__law_any_of⟩)
    (fc__law_any_of : PySem.W.codeIn K cd__law_any_of "_law_any_of" = true)
    (fk__law_any_of : PySem.W.keepIn K (.ref f__law_any_of) = true)
    (fl__law_vast : K.lookup f__law_vast = some ⟨oc__law_vast, od__law_vast, .func (PySem.W.fnOf "_law_vast" "_law_vast" (defArgs st__law_vast) (defBody st__law_vast) (defScope st__law_vast) .none kV__law_vast dc__law_vast pm__law_vast an__law_vast cd__law_vast ct__law_vast), os__law_vast⟩)
    (fc__law_vast : PySem.W.codeIn K cd__law_vast "_law_vast" = true)
    (fk__law_vast : PySem.W.keepIn K (.ref f__law_vast) = true)
    (fl__law_tidy : K.lookup f__law_tidy = some ⟨oc__law_tidy, od__law_tidy, .func (PySem.W.fnOf "_law_tidy" "_law_tidy" (defArgs st__law_tidy) (defBody st__law_tidy) (defScope st__law_tidy) .none kV__law_tidy dc__law_tidy pm__law_tidy an__law_tidy cd__law_tidy ct__law_tidy), os__law_tidy⟩)
    (fc__law_tidy : PySem.W.codeIn K cd__law_tidy "_law_tidy" = true)
    (fk__law_tidy : PySem.W.keepIn K (.ref f__law_tidy) = true)
    (fl__law_drawn : K.lookup f__law_drawn = some ⟨oc__law_drawn, od__law_drawn, .func (PySem.W.fnOf "_law_drawn" "_law_drawn" (defArgs st__law_drawn) (defBody st__law_drawn) (defScope st__law_drawn) .none kV__law_drawn dc__law_drawn pm__law_drawn an__law_drawn cd__law_drawn ct__law_drawn), os__law_drawn⟩)
    (fc__law_drawn : PySem.W.codeIn K cd__law_drawn "_law_drawn" = true)
    (fk__law_drawn : PySem.W.keepIn K (.ref f__law_drawn) = true)
    (fl_written_count : K.lookup f_written_count = some ⟨oc_written_count, od_written_count, .func (PySem.W.fnOf "written_count" "written_count" (defArgs st_written_count) (defBody st_written_count) (defScope st_written_count) .none kV_written_count dc_written_count pm_written_count an_written_count cd_written_count ct_written_count), os_written_count⟩)
    (fc_written_count : PySem.W.codeIn K cd_written_count "written_count" = true)
    (fk_written_count : PySem.W.keepIn K (.ref f_written_count) = true)
    (fl_is_integer : K.lookup f_is_integer = some ⟨oc_is_integer, od_is_integer, .func (PySem.W.fnOf "is_integer" "is_integer" (defArgs st_is_integer) (defBody st_is_integer) (defScope st_is_integer) .none kV_is_integer dc_is_integer pm_is_integer an_is_integer cd_is_integer ct_is_integer), os_is_integer⟩)
    (fc_is_integer : PySem.W.codeIn K cd_is_integer "is_integer" = true)
    (fk_is_integer : PySem.W.keepIn K (.ref f_is_integer) = true)
    (fl_is_count : K.lookup f_is_count = some ⟨oc_is_count, od_is_count, .func (PySem.W.fnOf "is_count" "is_count" (defArgs st_is_count) (defBody st_is_count) (defScope st_is_count) .none kV_is_count dc_is_count pm_is_count an_is_count cd_is_count ct_is_count), os_is_count⟩)
    (fc_is_count : PySem.W.codeIn K cd_is_count "is_count" = true)
    (fk_is_count : PySem.W.keepIn K (.ref f_is_count) = true)
    (fl_is_kind : K.lookup f_is_kind = some ⟨oc_is_kind, od_is_kind, .func (PySem.W.fnOf "is_kind" "is_kind" (defArgs st_is_kind) (defBody st_is_kind) (defScope st_is_kind) .none kV_is_kind dc_is_kind pm_is_kind an_is_kind cd_is_kind ct_is_kind), os_is_kind⟩)
    (fc_is_kind : PySem.W.codeIn K cd_is_kind "is_kind" = true)
    (fk_is_kind : PySem.W.keepIn K (.ref f_is_kind) = true)
    (fl_text_kind : K.lookup f_text_kind = some ⟨oc_text_kind, od_text_kind, .func (PySem.W.fnOf "text_kind" "text_kind" (defArgs st_text_kind) (defBody st_text_kind) (defScope st_text_kind) .none kV_text_kind dc_text_kind pm_text_kind an_text_kind cd_text_kind ct_text_kind), os_text_kind⟩)
    (fc_text_kind : PySem.W.codeIn K cd_text_kind "text_kind" = true)
    (fk_text_kind : PySem.W.keepIn K (.ref f_text_kind) = true)
    (fl_wrong_kind : K.lookup f_wrong_kind = some ⟨oc_wrong_kind, od_wrong_kind, .func (PySem.W.fnOf "wrong_kind" "wrong_kind" (defArgs st_wrong_kind) (defBody st_wrong_kind) (defScope st_wrong_kind) .none kV_wrong_kind dc_wrong_kind pm_wrong_kind an_wrong_kind cd_wrong_kind ct_wrong_kind), os_wrong_kind⟩)
    (fc_wrong_kind : PySem.W.codeIn K cd_wrong_kind "wrong_kind" = true)
    (fk_wrong_kind : PySem.W.keepIn K (.ref f_wrong_kind) = true)
    (fl_Row___init__ : K.lookup f_Row___init__ = some ⟨oc_Row___init__, od_Row___init__, .func (PySem.W.fnOf "__init__" "Row.__init__" (defArgs st_Row___init__) (defBody st_Row___init__) (defScope st_Row___init__) .none kV_Row___init__ dc_Row___init__ pm_Row___init__ an_Row___init__ cd_Row___init__ ct_Row___init__), os_Row___init__⟩)
    (fc_Row___init__ : PySem.W.codeIn K cd_Row___init__ "Row.__init__" = true)
    (fk_Row___init__ : PySem.W.keepIn K (.ref f_Row___init__) = true)
    (fl_text_row : K.lookup f_text_row = some ⟨oc_text_row, od_text_row, .func (PySem.W.fnOf "text_row" "text_row" (defArgs st_text_row) (defBody st_text_row) (defScope st_text_row) .none kV_text_row dc_text_row pm_text_row an_text_row cd_text_row ct_text_row), os_text_row⟩)
    (fc_text_row : PySem.W.codeIn K cd_text_row "text_row" = true)
    (fk_text_row : PySem.W.keepIn K (.ref f_text_row) = true)
    (fl_Row_read : K.lookup f_Row_read = some ⟨oc_Row_read, od_Row_read, .func (PySem.W.fnOf "read" "Row.read" (defArgs st_Row_read) (defBody st_Row_read) (defScope st_Row_read) .none kV_Row_read dc_Row_read pm_Row_read an_Row_read cd_Row_read ct_Row_read), os_Row_read⟩)
    (fc_Row_read : PySem.W.codeIn K cd_Row_read "Row.read" = true)
    (fk_Row_read : PySem.W.keepIn K (.ref f_Row_read) = true)
    (fl__law_sheet : K.lookup f__law_sheet = some ⟨oc__law_sheet, od__law_sheet, .func (PySem.W.fnOf "_law_sheet" "_law_sheet" (defArgs st__law_sheet) (defBody st__law_sheet) (defScope st__law_sheet) .none kV__law_sheet dc__law_sheet pm__law_sheet an__law_sheet cd__law_sheet ct__law_sheet), os__law_sheet⟩)
    (fc__law_sheet : PySem.W.codeIn K cd__law_sheet "_law_sheet" = true)
    (fk__law_sheet : PySem.W.keepIn K (.ref f__law_sheet) = true)
    (fl__law_built : K.lookup f__law_built = some ⟨oc__law_built, od__law_built, .func (PySem.W.fnOf "_law_built" "_law_built" (defArgs st__law_built) (defBody st__law_built) (defScope st__law_built) .none kV__law_built dc__law_built pm__law_built an__law_built cd__law_built ct__law_built), os__law_built⟩)
    (fc__law_built : PySem.W.codeIn K cd__law_built "_law_built" = true)
    (fk__law_built : PySem.W.keepIn K (.ref f__law_built) = true)
    (fl__law_near : K.lookup f__law_near = some ⟨oc__law_near, od__law_near, .func (PySem.W.fnOf "_law_near" "_law_near" (defArgs st__law_near) (defBody st__law_near) (defScope st__law_near) .none kV__law_near dc__law_near pm__law_near an__law_near cd__law_near ct__law_near), os__law_near⟩)
    (fc__law_near : PySem.W.codeIn K cd__law_near "_law_near" = true)
    (fk__law_near : PySem.W.keepIn K (.ref f__law_near) = true)
    (fl__law_lot : K.lookup f__law_lot = some ⟨oc__law_lot, od__law_lot, .func (PySem.W.fnOf "_law_lot" "_law_lot" (defArgs st__law_lot) (defBody st__law_lot) (defScope st__law_lot) .none kV__law_lot dc__law_lot pm__law_lot an__law_lot cd__law_lot ct__law_lot), os__law_lot⟩)
    (fc__law_lot : PySem.W.codeIn K cd__law_lot "_law_lot" = true)
    (fk__law_lot : PySem.W.keepIn K (.ref f__law_lot) = true)
    (fl_check_listed : K.lookup f_check_listed = some ⟨oc_check_listed, od_check_listed, .func (PySem.W.fnOf "check_listed" "check_listed" (defArgs st_check_listed) (defBody st_check_listed) (defScope st_check_listed) .none kV_check_listed dc_check_listed pm_check_listed an_check_listed cd_check_listed ct_check_listed), os_check_listed⟩)
    (fc_check_listed : PySem.W.codeIn K cd_check_listed "check_listed" = true)
    (fk_check_listed : PySem.W.keepIn K (.ref f_check_listed) = true)
    (fl_gathered : K.lookup f_gathered = some ⟨oc_gathered, od_gathered, .func (PySem.W.fnOf "gathered" "gathered" (defArgs st_gathered) (defBody st_gathered) (defScope st_gathered) .none kV_gathered dc_gathered pm_gathered an_gathered cd_gathered ct_gathered), os_gathered⟩)
    (fc_gathered : PySem.W.codeIn K cd_gathered "gathered" = true)
    (fk_gathered : PySem.W.keepIn K (.ref f_gathered) = true)
    (fl_Row_listed : K.lookup f_Row_listed = some ⟨oc_Row_listed, od_Row_listed, .func (PySem.W.fnOf "listed" "Row.listed" (defArgs st_Row_listed) (defBody st_Row_listed) (defScope st_Row_listed) .none kV_Row_listed dc_Row_listed pm_Row_listed an_Row_listed cd_Row_listed ct_Row_listed), os_Row_listed⟩)
    (fc_Row_listed : PySem.W.codeIn K cd_Row_listed "Row.listed" = true)
    (fk_Row_listed : PySem.W.keepIn K (.ref f_Row_listed) = true)
    (fl__law_of : K.lookup f__law_of = some ⟨oc__law_of, od__law_of, .func (PySem.W.fnOf "_law_of" "_law_of" (defArgs st__law_of) (defBody st__law_of) (defScope st__law_of) .none kV__law_of dc__law_of pm__law_of an__law_of cd__law_of ct__law_of), os__law_of⟩)
    (fc__law_of : PySem.W.codeIn K cd__law_of "_law_of" = true)
    (fk__law_of : PySem.W.keepIn K (.ref f__law_of) = true)
    (fl_kind_lines : K.lookup f_kind_lines = some ⟨oc_kind_lines, od_kind_lines, .func (PySem.W.fnOf "kind_lines" "kind_lines" (defArgs st_kind_lines) (defBody st_kind_lines) (defScope st_kind_lines) .none kV_kind_lines dc_kind_lines pm_kind_lines an_kind_lines cd_kind_lines ct_kind_lines), os_kind_lines⟩)
    (fc_kind_lines : PySem.W.codeIn K cd_kind_lines "kind_lines" = true)
    (fk_kind_lines : PySem.W.keepIn K (.ref f_kind_lines) = true)
    (fl_Row___str__ : K.lookup f_Row___str__ = some ⟨oc_Row___str__, od_Row___str__, .func (PySem.W.fnOf "__str__" "Row.__str__" (defArgs st_Row___str__) (defBody st_Row___str__) (defScope st_Row___str__) .none kV_Row___str__ dc_Row___str__ pm_Row___str__ an_Row___str__ cd_Row___str__ ct_Row___str__), os_Row___str__⟩)
    (fc_Row___str__ : PySem.W.codeIn K cd_Row___str__ "Row.__str__" = true)
    (fk_Row___str__ : PySem.W.keepIn K (.ref f_Row___str__) = true)
    (fl_Row_text : K.lookup f_Row_text = some ⟨oc_Row_text, od_Row_text, .func (PySem.W.fnOf "text" "Row.text" (defArgs st_Row_text) (defBody st_Row_text) (defScope st_Row_text) .none kV_Row_text dc_Row_text pm_Row_text an_Row_text cd_Row_text ct_Row_text), os_Row_text⟩)
    (fc_Row_text : PySem.W.codeIn K cd_Row_text "Row.text" = true)
    (fk_Row_text : PySem.W.keepIn K (.ref f_Row_text) = true)
    (fl_Row___eq__ : K.lookup f_Row___eq__ = some ⟨oc_Row___eq__, od_Row___eq__, .func (PySem.W.fnOf "__eq__" "Row.__eq__" (defArgs st_Row___eq__) (defBody st_Row___eq__) (defScope st_Row___eq__) .none kV_Row___eq__ dc_Row___eq__ pm_Row___eq__ an_Row___eq__ cd_Row___eq__ ct_Row___eq__), os_Row___eq__⟩)
    (fc_Row___eq__ : PySem.W.codeIn K cd_Row___eq__ "Row.__eq__" = true)
    (fk_Row___eq__ : PySem.W.keepIn K (.ref f_Row___eq__) = true)
    (fl__law_thing : K.lookup f__law_thing = some ⟨oc__law_thing, od__law_thing, .func (PySem.W.fnOf "_law_thing" "_law_thing" (defArgs st__law_thing) (defBody st__law_thing) (defScope st__law_thing) .none kV__law_thing dc__law_thing pm__law_thing an__law_thing cd__law_thing ct__law_thing), os__law_thing⟩)
    (fc__law_thing : PySem.W.codeIn K cd__law_thing "_law_thing" = true)
    (fk__law_thing : PySem.W.keepIn K (.ref f__law_thing) = true)
    (fl_Row_kinds : K.lookup f_Row_kinds = some ⟨oc_Row_kinds, od_Row_kinds, .func (PySem.W.fnOf "kinds" "Row.kinds" (defArgs st_Row_kinds) (defBody st_Row_kinds) (defScope st_Row_kinds) .none kV_Row_kinds dc_Row_kinds pm_Row_kinds an_Row_kinds cd_Row_kinds ct_Row_kinds), os_Row_kinds⟩)
    (fc_Row_kinds : PySem.W.codeIn K cd_Row_kinds "Row.kinds" = true)
    (fk_Row_kinds : PySem.W.keepIn K (.ref f_Row_kinds) = true)
    (fl_places_of : K.lookup f_places_of = some ⟨oc_places_of, od_places_of, .func (PySem.W.fnOf "places_of" "places_of" (defArgs st_places_of) (defBody st_places_of) (defScope st_places_of) .none kV_places_of dc_places_of pm_places_of an_places_of cd_places_of ct_places_of), os_places_of⟩)
    (fc_places_of : PySem.W.codeIn K cd_places_of "places_of" = true)
    (fk_places_of : PySem.W.keepIn K (.ref f_places_of) = true)
    (fl_Row_places : K.lookup f_Row_places = some ⟨oc_Row_places, od_Row_places, .func (PySem.W.fnOf "places" "Row.places" (defArgs st_Row_places) (defBody st_Row_places) (defScope st_Row_places) .none kV_Row_places dc_Row_places pm_Row_places an_Row_places cd_Row_places ct_Row_places), os_Row_places⟩)
    (fc_Row_places : PySem.W.codeIn K cd_Row_places "Row.places" = true)
    (fk_Row_places : PySem.W.keepIn K (.ref f_Row_places) = true)
    (fl__law_right : K.lookup f__law_right = some ⟨oc__law_right, od__law_right, .func (PySem.W.fnOf "_law_right" "_law_right" (defArgs st__law_right) (defBody st__law_right) (defScope st__law_right) .none kV__law_right dc__law_right pm__law_right an__law_right cd__law_right ct__law_right), os__law_right⟩)
    (fc__law_right : PySem.W.codeIn K cd__law_right "_law_right" = true)
    (fk__law_right : PySem.W.keepIn K (.ref f__law_right) = true)
    (fl__law_begun : K.lookup f__law_begun = some ⟨oc__law_begun, od__law_begun, .func (PySem.W.fnOf "_law_begun" "_law_begun" (defArgs st__law_begun) (defBody st__law_begun) (defScope st__law_begun) .none kV__law_begun dc__law_begun pm__law_begun an__law_begun cd__law_begun ct__law_begun), os__law_begun⟩)
    (fc__law_begun : PySem.W.codeIn K cd__law_begun "_law_begun" = true)
    (fk__law_begun : PySem.W.keepIn K (.ref f__law_begun) = true)
    (fl_law : K.lookup f_law = some ⟨oc_law, od_law, .func (PySem.W.fnOf "law" "law" (defArgs st_law) (defBody st_law) (defScope st_law) .none kV_law dc_law pm_law an_law cd_law ct_law), os_law⟩)
    (fc_law : PySem.W.codeIn K cd_law "law" = true)
    (fk_law : PySem.W.keepIn K (.ref f_law) = true) :
    ∃ (T : Tx) (fd : FuncData), T.K = K ∧ (∀ (s : Shared) (u : Value), BindsTo s fd ⟨[u], []⟩ [("script", u)]) ∧ ∀ base : Heap, T.K.In base → base.Ns mainGlobals mg → FnG l.prog w T.K mg base 12 fa fd ["script"] (spD T 1 (lawS 63)) := by
  have e := hfa.symm.trans (mg_of X G m_law)
  cases e
  have tx_Row : SlX.SCls K C_Row := ⟨pg_Row, ic_Row, po_Row, sa_Row⟩
  let A : Ad := {
    C_Row := C_Row,
    p_shape := p_shape,
    f__law_cast := f__law_cast,
    f__law_any_of := f__law_any_of,
    f__law_vast := f__law_vast,
    f__law_tidy := f__law_tidy,
    f__law_drawn := f__law_drawn,
    f_written_count := f_written_count,
    f_is_integer := f_is_integer,
    f_is_count := f_is_count,
    f_is_kind := f_is_kind,
    f_text_kind := f_text_kind,
    f_wrong_kind := f_wrong_kind,
    f_Row___init__ := f_Row___init__,
    f_text_row := f_text_row,
    f_Row_read := f_Row_read,
    p_Row_read := p_Row_read,
    f__law_sheet := f__law_sheet,
    f__law_built := f__law_built,
    f__law_near := f__law_near,
    f__law_lot := f__law_lot,
    f_check_listed := f_check_listed,
    f_gathered := f_gathered,
    f_Row_listed := f_Row_listed,
    p_Row_listed := p_Row_listed,
    f__law_of := f__law_of,
    f_kind_lines := f_kind_lines,
    f_Row___str__ := f_Row___str__,
    f_Row_text := f_Row_text,
    p_Row_text := p_Row_text,
    f_Row___eq__ := f_Row___eq__,
    f__law_thing := f__law_thing,
    f_Row_kinds := f_Row_kinds,
    p_Row_kinds := p_Row_kinds,
    f_places_of := f_places_of,
    f_Row_places := f_Row_places,
    p_Row_places := p_Row_places,
    f__law_right := f__law_right,
    f__law_begun := f__law_begun,
    f_law := fa,
    d__law_cast := PySem.W.fnOf "_law_cast" "_law_cast" (defArgs st__law_cast) (defBody st__law_cast) (defScope st__law_cast) .none kV__law_cast dc__law_cast pm__law_cast an__law_cast cd__law_cast ct__law_cast,
    d__law_any_of := PySem.W.fnOf "_law_any_of" "_law_any_of" (defArgs st__law_any_of) (defBody st__law_any_of) (defScope st__law_any_of) .none kV__law_any_of dc__law_any_of pm__law_any_of an__law_any_of cd__law_any_of ct__law_any_of,
    d__law_vast := PySem.W.fnOf "_law_vast" "_law_vast" (defArgs st__law_vast) (defBody st__law_vast) (defScope st__law_vast) .none kV__law_vast dc__law_vast pm__law_vast an__law_vast cd__law_vast ct__law_vast,
    d__law_tidy := PySem.W.fnOf "_law_tidy" "_law_tidy" (defArgs st__law_tidy) (defBody st__law_tidy) (defScope st__law_tidy) .none kV__law_tidy dc__law_tidy pm__law_tidy an__law_tidy cd__law_tidy ct__law_tidy,
    d__law_drawn := PySem.W.fnOf "_law_drawn" "_law_drawn" (defArgs st__law_drawn) (defBody st__law_drawn) (defScope st__law_drawn) .none kV__law_drawn dc__law_drawn pm__law_drawn an__law_drawn cd__law_drawn ct__law_drawn,
    d_written_count := PySem.W.fnOf "written_count" "written_count" (defArgs st_written_count) (defBody st_written_count) (defScope st_written_count) .none kV_written_count dc_written_count pm_written_count an_written_count cd_written_count ct_written_count,
    d_is_integer := PySem.W.fnOf "is_integer" "is_integer" (defArgs st_is_integer) (defBody st_is_integer) (defScope st_is_integer) .none kV_is_integer dc_is_integer pm_is_integer an_is_integer cd_is_integer ct_is_integer,
    d_is_count := PySem.W.fnOf "is_count" "is_count" (defArgs st_is_count) (defBody st_is_count) (defScope st_is_count) .none kV_is_count dc_is_count pm_is_count an_is_count cd_is_count ct_is_count,
    d_is_kind := PySem.W.fnOf "is_kind" "is_kind" (defArgs st_is_kind) (defBody st_is_kind) (defScope st_is_kind) .none kV_is_kind dc_is_kind pm_is_kind an_is_kind cd_is_kind ct_is_kind,
    d_text_kind := PySem.W.fnOf "text_kind" "text_kind" (defArgs st_text_kind) (defBody st_text_kind) (defScope st_text_kind) .none kV_text_kind dc_text_kind pm_text_kind an_text_kind cd_text_kind ct_text_kind,
    d_wrong_kind := PySem.W.fnOf "wrong_kind" "wrong_kind" (defArgs st_wrong_kind) (defBody st_wrong_kind) (defScope st_wrong_kind) .none kV_wrong_kind dc_wrong_kind pm_wrong_kind an_wrong_kind cd_wrong_kind ct_wrong_kind,
    d_Row___init__ := PySem.W.fnOf "__init__" "Row.__init__" (defArgs st_Row___init__) (defBody st_Row___init__) (defScope st_Row___init__) .none kV_Row___init__ dc_Row___init__ pm_Row___init__ an_Row___init__ cd_Row___init__ ct_Row___init__,
    d_text_row := PySem.W.fnOf "text_row" "text_row" (defArgs st_text_row) (defBody st_text_row) (defScope st_text_row) .none kV_text_row dc_text_row pm_text_row an_text_row cd_text_row ct_text_row,
    d_Row_read := PySem.W.fnOf "read" "Row.read" (defArgs st_Row_read) (defBody st_Row_read) (defScope st_Row_read) .none kV_Row_read dc_Row_read pm_Row_read an_Row_read cd_Row_read ct_Row_read,
    d__law_sheet := PySem.W.fnOf "_law_sheet" "_law_sheet" (defArgs st__law_sheet) (defBody st__law_sheet) (defScope st__law_sheet) .none kV__law_sheet dc__law_sheet pm__law_sheet an__law_sheet cd__law_sheet ct__law_sheet,
    d__law_built := PySem.W.fnOf "_law_built" "_law_built" (defArgs st__law_built) (defBody st__law_built) (defScope st__law_built) .none kV__law_built dc__law_built pm__law_built an__law_built cd__law_built ct__law_built,
    d__law_near := PySem.W.fnOf "_law_near" "_law_near" (defArgs st__law_near) (defBody st__law_near) (defScope st__law_near) .none kV__law_near dc__law_near pm__law_near an__law_near cd__law_near ct__law_near,
    d__law_lot := PySem.W.fnOf "_law_lot" "_law_lot" (defArgs st__law_lot) (defBody st__law_lot) (defScope st__law_lot) .none kV__law_lot dc__law_lot pm__law_lot an__law_lot cd__law_lot ct__law_lot,
    d_check_listed := PySem.W.fnOf "check_listed" "check_listed" (defArgs st_check_listed) (defBody st_check_listed) (defScope st_check_listed) .none kV_check_listed dc_check_listed pm_check_listed an_check_listed cd_check_listed ct_check_listed,
    d_gathered := PySem.W.fnOf "gathered" "gathered" (defArgs st_gathered) (defBody st_gathered) (defScope st_gathered) .none kV_gathered dc_gathered pm_gathered an_gathered cd_gathered ct_gathered,
    d_Row_listed := PySem.W.fnOf "listed" "Row.listed" (defArgs st_Row_listed) (defBody st_Row_listed) (defScope st_Row_listed) .none kV_Row_listed dc_Row_listed pm_Row_listed an_Row_listed cd_Row_listed ct_Row_listed,
    d__law_of := PySem.W.fnOf "_law_of" "_law_of" (defArgs st__law_of) (defBody st__law_of) (defScope st__law_of) .none kV__law_of dc__law_of pm__law_of an__law_of cd__law_of ct__law_of,
    d_kind_lines := PySem.W.fnOf "kind_lines" "kind_lines" (defArgs st_kind_lines) (defBody st_kind_lines) (defScope st_kind_lines) .none kV_kind_lines dc_kind_lines pm_kind_lines an_kind_lines cd_kind_lines ct_kind_lines,
    d_Row___str__ := PySem.W.fnOf "__str__" "Row.__str__" (defArgs st_Row___str__) (defBody st_Row___str__) (defScope st_Row___str__) .none kV_Row___str__ dc_Row___str__ pm_Row___str__ an_Row___str__ cd_Row___str__ ct_Row___str__,
    d_Row_text := PySem.W.fnOf "text" "Row.text" (defArgs st_Row_text) (defBody st_Row_text) (defScope st_Row_text) .none kV_Row_text dc_Row_text pm_Row_text an_Row_text cd_Row_text ct_Row_text,
    d_Row___eq__ := PySem.W.fnOf "__eq__" "Row.__eq__" (defArgs st_Row___eq__) (defBody st_Row___eq__) (defScope st_Row___eq__) .none kV_Row___eq__ dc_Row___eq__ pm_Row___eq__ an_Row___eq__ cd_Row___eq__ ct_Row___eq__,
    d__law_thing := PySem.W.fnOf "_law_thing" "_law_thing" (defArgs st__law_thing) (defBody st__law_thing) (defScope st__law_thing) .none kV__law_thing dc__law_thing pm__law_thing an__law_thing cd__law_thing ct__law_thing,
    d_Row_kinds := PySem.W.fnOf "kinds" "Row.kinds" (defArgs st_Row_kinds) (defBody st_Row_kinds) (defScope st_Row_kinds) .none kV_Row_kinds dc_Row_kinds pm_Row_kinds an_Row_kinds cd_Row_kinds ct_Row_kinds,
    d_places_of := PySem.W.fnOf "places_of" "places_of" (defArgs st_places_of) (defBody st_places_of) (defScope st_places_of) .none kV_places_of dc_places_of pm_places_of an_places_of cd_places_of ct_places_of,
    d_Row_places := PySem.W.fnOf "places" "Row.places" (defArgs st_Row_places) (defBody st_Row_places) (defScope st_Row_places) .none kV_Row_places dc_Row_places pm_Row_places an_Row_places cd_Row_places ct_Row_places,
    d__law_right := PySem.W.fnOf "_law_right" "_law_right" (defArgs st__law_right) (defBody st__law_right) (defScope st__law_right) .none kV__law_right dc__law_right pm__law_right an__law_right cd__law_right ct__law_right,
    d__law_begun := PySem.W.fnOf "_law_begun" "_law_begun" (defArgs st__law_begun) (defBody st__law_begun) (defScope st__law_begun) .none kV__law_begun dc__law_begun pm__law_begun an__law_begun cd__law_begun ct__law_begun,
    d_law := PySem.W.fnOf "law" "law" (defArgs st_law) (defBody st_law) (defScope st_law) .none kV_law dc_law pm_law an_law cd_law ct_law }
  have tx : Txt A K mg := {
    scls_Row := ⟨pg_Row, ic_Row, po_Row, sa_Row⟩,
    z_all := mg_none_of X G z_all,
    z_range := mg_none_of X G z_range,
    z_max := mg_none_of X G z_max,
    z_min := mg_none_of X G z_min,
    z_len := mg_none_of X G z_len,
    m__law_cast := mg_of X G m__law_cast,
    m__law_any_of := mg_of X G m__law_any_of,
    z_int := mg_none_of X G z_int,
    m__law_vast := mg_of X G m__law_vast,
    z_tuple := mg_none_of X G z_tuple,
    z_sorted := mg_none_of X G z_sorted,
    z_list := mg_none_of X G z_list,
    m__law_tidy := mg_of X G m__law_tidy,
    m__law_drawn := mg_of X G m__law_drawn,
    z_isinstance := mg_none_of X G z_isinstance,
    z_str := mg_none_of X G z_str,
    c_MOST_KINDS := ⟨_, mg_of X G c_MOST_KINDS⟩,
    c_DIGITS := ⟨_, mg_of X G c_DIGITS⟩,
    m_written_count := mg_of X G m_written_count,
    z_bool := mg_none_of X G z_bool,
    m_is_integer := mg_of X G m_is_integer,
    m_is_count := mg_of X G m_is_count,
    c_MOST_DEGREE := ⟨_, mg_of X G c_MOST_DEGREE⟩,
    c_MOST_COUNT := ⟨_, mg_of X G c_MOST_COUNT⟩,
    m_is_kind := mg_of X G m_is_kind,
    m_text_kind := mg_of X G m_text_kind,
    z_enumerate := mg_none_of X G z_enumerate,
    m_wrong_kind := mg_of X G m_wrong_kind,
    sl_shape := ⟨sa1_shape, sa2_shape, sa3_shape, sa4_shape, sa5_shape, by decide⟩,
    m_Row := mg_of X G m_Row,
    mk_Row := ⟨mk0_Row, mk1_Row, mk2_Row, mk3_Row⟩,
    m_text_row := mg_of X G m_text_row,
    cr_Row := ⟨cr0_Row, cr1_Row⟩,
    cm_Row_read := ⟨cm0_Row_read, ⟨_, cm1_Row_read⟩, cm2_Row_read⟩,
    m__law_sheet := mg_of X G m__law_sheet,
    m__law_built := mg_of X G m__law_built,
    m__law_near := mg_of X G m__law_near,
    m__law_lot := mg_of X G m__law_lot,
    c_MOST_LISTED := ⟨_, mg_of X G c_MOST_LISTED⟩,
    m_check_listed := mg_of X G m_check_listed,
    m_gathered := mg_of X G m_gathered,
    cm_Row_listed := ⟨cm0_Row_listed, ⟨_, cm1_Row_listed⟩, cm2_Row_listed⟩,
    m__law_of := mg_of X G m__law_of,
    m_kind_lines := mg_of X G m_kind_lines,
    me_Row___str__ := ⟨me0_Row___str__, me1_Row___str__⟩,
    pr_Row_text := ⟨pr0_Row_text, pr1_Row_text, pr2_Row_text, ⟨_, pr3_Row_text⟩⟩,
    z_repr := mg_none_of X G z_repr,
    me_Row___eq__ := ⟨me0_Row___eq__, me1_Row___eq__⟩,
    ne_Row := ⟨ne_Row, co_Row⟩,
    m__law_thing := mg_of X G m__law_thing,
    pr_Row_kinds := ⟨pr0_Row_kinds, pr1_Row_kinds, pr2_Row_kinds, ⟨_, pr3_Row_kinds⟩⟩,
    z_sum := mg_none_of X G z_sum,
    m_places_of := mg_of X G m_places_of,
    pr_Row_places := ⟨pr0_Row_places, pr1_Row_places, pr2_Row_places, ⟨_, pr3_Row_places⟩⟩,
    nt_Row := ⟨km_Row_NoneType, km_Row_bool, km_Row_int, km_Row_str, km_Row_list, km_Row_tuple, km_Row_dict⟩,
    z_abs := mg_none_of X G z_abs,
    m__law_right := mg_of X G m__law_right,
    m__law_begun := mg_of X G m__law_begun,
    z_divmod := mg_none_of X G z_divmod,
    is_str := ⟨kit_ty (by decide +kernel), kit_ty (by decide +kernel), kit_ty (by decide +kernel), kit_ty (by decide +kernel), kit_ty (by decide +kernel), kit_ty (by decide +kernel), kit_ty (by decide +kernel), fun n b h => by cases h; exact ⟨kit_mt km_Row_str, tx_Row, ⟨ca_Row, cn, ct, co_Row⟩⟩⟩,
    is_tuple := ⟨kit_ty (by decide +kernel), kit_ty (by decide +kernel), kit_ty (by decide +kernel), kit_ty (by decide +kernel), kit_ty (by decide +kernel), kit_ty (by decide +kernel), kit_ty (by decide +kernel), fun n b h => by cases h; exact ⟨kit_mt km_Row_tuple, tx_Row, ⟨ca_Row, cn, ct, co_Row⟩⟩⟩,
    is_int := ⟨kit_ty (by decide +kernel), kit_ty (by decide +kernel), kit_ty (by decide +kernel), kit_ty (by decide +kernel), kit_ty (by decide +kernel), kit_ty (by decide +kernel), kit_ty (by decide +kernel), fun n b h => by cases h; exact ⟨kit_mt km_Row_int, tx_Row, ⟨ca_Row, cn, ct, co_Row⟩⟩⟩,
    is_bool := ⟨kit_ty (by decide +kernel), kit_ty (by decide +kernel), kit_ty (by decide +kernel), kit_ty (by decide +kernel), kit_ty (by decide +kernel), kit_ty (by decide +kernel), kit_ty (by decide +kernel), fun n b h => by cases h; exact ⟨kit_mt km_Row_bool, tx_Row, ⟨ca_Row, cn, ct, co_Row⟩⟩⟩,
    is_Row := ⟨kit_tm ic_Row ty_Row, kit_tm ic_Row ty_Row, kit_tm ic_Row ty_Row, kit_tm ic_Row ty_Row, kit_tm ic_Row ty_Row, kit_tm ic_Row ty_Row, kit_tm ic_Row ty_Row, fun n b h => match n, h with | 0, h => by cases h; exact ⟨kit_me, tx_Row, ⟨ca_Row, cn, ct, co_Row⟩⟩ | _ + 1, h => by cases h⟩,
    fu__law_cast := fun_mk (st := st__law_cast) fl__law_cast fc__law_cast fk__law_cast,
    fu__law_any_of := fun_mk (st := st__law_any_of) fl__law_any_of fc__law_any_of fk__law_any_of,
    fu__law_vast := fun_mk (st := st__law_vast) fl__law_vast fc__law_vast fk__law_vast,
    fu__law_tidy := fun_mk (st := st__law_tidy) fl__law_tidy fc__law_tidy fk__law_tidy,
    fu__law_drawn := fun_mk (st := st__law_drawn) fl__law_drawn fc__law_drawn fk__law_drawn,
    fu_written_count := fun_mk (st := st_written_count) fl_written_count fc_written_count fk_written_count,
    fu_is_integer := fun_mk (st := st_is_integer) fl_is_integer fc_is_integer fk_is_integer,
    fu_is_count := fun_mk (st := st_is_count) fl_is_count fc_is_count fk_is_count,
    fu_is_kind := fun_mk (st := st_is_kind) fl_is_kind fc_is_kind fk_is_kind,
    fu_text_kind := fun_mk (st := st_text_kind) fl_text_kind fc_text_kind fk_text_kind,
    fu_wrong_kind := fun_mk (st := st_wrong_kind) fl_wrong_kind fc_wrong_kind fk_wrong_kind,
    fu_Row___init__ := fun_mk (st := st_Row___init__) fl_Row___init__ fc_Row___init__ fk_Row___init__,
    fu_text_row := fun_mk (st := st_text_row) fl_text_row fc_text_row fk_text_row,
    fu_Row_read := fun_mk (st := st_Row_read) fl_Row_read fc_Row_read fk_Row_read,
    fu__law_sheet := fun_mk (st := st__law_sheet) fl__law_sheet fc__law_sheet fk__law_sheet,
    fu__law_built := fun_mk (st := st__law_built) fl__law_built fc__law_built fk__law_built,
    fu__law_near := fun_mk (st := st__law_near) fl__law_near fc__law_near fk__law_near,
    fu__law_lot := fun_mk (st := st__law_lot) fl__law_lot fc__law_lot fk__law_lot,
    fu_check_listed := fun_mk (st := st_check_listed) fl_check_listed fc_check_listed fk_check_listed,
    fu_gathered := fun_mk (st := st_gathered) fl_gathered fc_gathered fk_gathered,
    fu_Row_listed := fun_mk (st := st_Row_listed) fl_Row_listed fc_Row_listed fk_Row_listed,
    fu__law_of := fun_mk (st := st__law_of) fl__law_of fc__law_of fk__law_of,
    fu_kind_lines := fun_mk (st := st_kind_lines) fl_kind_lines fc_kind_lines fk_kind_lines,
    fu_Row___str__ := fun_mk (st := st_Row___str__) fl_Row___str__ fc_Row___str__ fk_Row___str__,
    fu_Row_text := fun_mk (st := st_Row_text) fl_Row_text fc_Row_text fk_Row_text,
    fu_Row___eq__ := fun_mk (st := st_Row___eq__) fl_Row___eq__ fc_Row___eq__ fk_Row___eq__,
    fu__law_thing := fun_mk (st := st__law_thing) fl__law_thing fc__law_thing fk__law_thing,
    fu_Row_kinds := fun_mk (st := st_Row_kinds) fl_Row_kinds fc_Row_kinds fk_Row_kinds,
    fu_places_of := fun_mk (st := st_places_of) fl_places_of fc_places_of fk_places_of,
    fu_Row_places := fun_mk (st := st_Row_places) fl_Row_places fc_Row_places fk_Row_places,
    fu__law_right := fun_mk (st := st__law_right) fl__law_right fc__law_right fk__law_right,
    fu__law_begun := fun_mk (st := st__law_begun) fl__law_begun fc__law_begun fk__law_begun,
    fu_law := fun_mk (st := st_law) fl_law fc_law fk_law }
  exact ⟨txOf A K, A.d_law, rfl, fun s v => .of_eq rfl, fun base _ _ => ok_law tx⟩
end Dc
set_option maxHeartbeats 0
open PySem PySem.W PyProof.Rows
open_top head for PySem.Challenge.rw_degreerows_k14_rows_compared
theorem PySem.Challenge.cw_degreerows_k14_rows_compared_holds : PySem.Challenge.rw_degreerows_k14_rows_compared.Holds := by
  refine head ?_
  k_fill
  refine Dc.walk_G (l := PySem.Challenge.rw_degreerows_k14_rows_compared) (n := 63) (k := 12) (x := "script") rfl (by decide) rfl ⟨rfl, by decide, by decide⟩ (fun w h Y => PySem.W.kIn_of Y) ?F
  case F =>
    intro w mg fa h KX G hmg
    refine' Dc.all_mk KX G hmg ?m_law ?m_Row ?pg_Row ?ic_Row ?po_Row ?sa_Row ?z_all ?z_range ?z_max ?z_min ?z_len ?m__law_cast ?m__law_any_of ?z_int ?m__law_vast ?z_tuple ?z_sorted ?z_list ?m__law_tidy ?m__law_drawn ?z_isinstance ?z_str ?c_MOST_KINDS ?c_DIGITS ?m_written_count ?z_bool ?m_is_integer ?m_is_count ?c_MOST_DEGREE ?c_MOST_COUNT ?m_is_kind ?m_text_kind ?z_enumerate ?m_wrong_kind ?sa1_shape ?sa2_shape ?sa3_shape ?sa4_shape ?sa5_shape ?mk0_Row ?mk1_Row ?mk2_Row ?mk3_Row ?m_text_row ?cr0_Row ?cr1_Row ?cm0_Row_read ?cm1_Row_read ?cm2_Row_read ?m__law_sheet ?m__law_built ?m__law_near ?m__law_lot ?c_MOST_LISTED ?m_check_listed ?m_gathered ?cm0_Row_listed ?cm1_Row_listed ?cm2_Row_listed ?m__law_of ?m_kind_lines ?me0_Row___str__ ?me1_Row___str__ ?pr0_Row_text ?pr1_Row_text ?pr2_Row_text ?pr3_Row_text ?z_repr ?me0_Row___eq__ ?me1_Row___eq__ ?ne_Row ?co_Row ?m__law_thing ?pr0_Row_kinds ?pr1_Row_kinds ?pr2_Row_kinds ?pr3_Row_kinds ?z_sum ?m_places_of ?pr0_Row_places ?pr1_Row_places ?pr2_Row_places ?pr3_Row_places ?km_Row_NoneType ?km_Row_bool ?km_Row_int ?km_Row_str ?km_Row_list ?km_Row_tuple ?km_Row_dict ?z_abs ?m__law_right ?m__law_begun ?z_divmod ?ca_Row ?cn ?ct ?ty_Row ?fl__law_cast ?fc__law_cast ?fk__law_cast ?fl__law_any_of ?fc__law_any_of ?fk__law_any_of ?fl__law_vast ?fc__law_vast ?fk__law_vast ?fl__law_tidy ?fc__law_tidy ?fk__law_tidy ?fl__law_drawn ?fc__law_drawn ?fk__law_drawn ?fl_written_count ?fc_written_count ?fk_written_count ?fl_is_integer ?fc_is_integer ?fk_is_integer ?fl_is_count ?fc_is_count ?fk_is_count ?fl_is_kind ?fc_is_kind ?fk_is_kind ?fl_text_kind ?fc_text_kind ?fk_text_kind ?fl_wrong_kind ?fc_wrong_kind ?fk_wrong_kind ?fl_Row___init__ ?fc_Row___init__ ?fk_Row___init__ ?fl_text_row ?fc_text_row ?fk_text_row ?fl_Row_read ?fc_Row_read ?fk_Row_read ?fl__law_sheet ?fc__law_sheet ?fk__law_sheet ?fl__law_built ?fc__law_built ?fk__law_built ?fl__law_near ?fc__law_near ?fk__law_near ?fl__law_lot ?fc__law_lot ?fk__law_lot ?fl_check_listed ?fc_check_listed ?fk_check_listed ?fl_gathered ?fc_gathered ?fk_gathered ?fl_Row_listed ?fc_Row_listed ?fk_Row_listed ?fl__law_of ?fc__law_of ?fk__law_of ?fl_kind_lines ?fc_kind_lines ?fk_kind_lines ?fl_Row___str__ ?fc_Row___str__ ?fk_Row___str__ ?fl_Row_text ?fc_Row_text ?fk_Row_text ?fl_Row___eq__ ?fc_Row___eq__ ?fk_Row___eq__ ?fl__law_thing ?fc__law_thing ?fk__law_thing ?fl_Row_kinds ?fc_Row_kinds ?fk_Row_kinds ?fl_places_of ?fc_places_of ?fk_places_of ?fl_Row_places ?fc_Row_places ?fk_Row_places ?fl__law_right ?fc__law_right ?fk__law_right ?fl__law_begun ?fc__law_begun ?fk__law_begun ?fl_law ?fc_law ?fk_law
    (case m_law => k_is)
    (case m_Row => k_is)
    (case pg_Row => k_is)
    (case ic_Row => k_is)
    (case po_Row => k_is)
    (case sa_Row => k_is)
    (case z_all => k_is)
    (case z_range => k_is)
    (case z_max => k_is)
    (case z_min => k_is)
    (case z_len => k_is)
    (case m__law_cast => k_is)
    (case m__law_any_of => k_is)
    (case z_int => k_is)
    (case m__law_vast => k_is)
    (case z_tuple => k_is)
    (case z_sorted => k_is)
    (case z_list => k_is)
    (case m__law_tidy => k_is)
    (case m__law_drawn => k_is)
    (case z_isinstance => k_is)
    (case z_str => k_is)
    (case c_MOST_KINDS => k_is)
    (case c_DIGITS => k_is)
    (case m_written_count => k_is)
    (case z_bool => k_is)
    (case m_is_integer => k_is)
    (case m_is_count => k_is)
    (case c_MOST_DEGREE => k_is)
    (case c_MOST_COUNT => k_is)
    (case m_is_kind => k_is)
    (case m_text_kind => k_is)
    (case z_enumerate => k_is)
    (case m_wrong_kind => k_is)
    (case sa1_shape => k_is)
    (case sa2_shape => k_is)
    (case sa3_shape => k_is)
    (case sa4_shape => k_is)
    (case sa5_shape => k_is)
    (case mk0_Row => k_is)
    (case mk1_Row => k_is)
    (case mk2_Row => k_is)
    (case mk3_Row => k_is)
    (case m_text_row => k_is)
    (case cr0_Row => k_is)
    (case cr1_Row => k_is)
    (case cm0_Row_read => k_is)
    (case cm1_Row_read => k_is)
    (case cm2_Row_read => k_is)
    (case m__law_sheet => k_is)
    (case m__law_built => k_is)
    (case m__law_near => k_is)
    (case m__law_lot => k_is)
    (case c_MOST_LISTED => k_is)
    (case m_check_listed => k_is)
    (case m_gathered => k_is)
    (case cm0_Row_listed => k_is)
    (case cm1_Row_listed => k_is)
    (case cm2_Row_listed => k_is)
    (case m__law_of => k_is)
    (case m_kind_lines => k_is)
    (case me0_Row___str__ => k_is)
    (case me1_Row___str__ => k_is)
    (case pr0_Row_text => k_is)
    (case pr1_Row_text => k_is)
    (case pr2_Row_text => k_is)
    (case pr3_Row_text => k_is)
    (case z_repr => k_is)
    (case me0_Row___eq__ => k_is)
    (case me1_Row___eq__ => k_is)
    (case ne_Row => k_is)
    (case co_Row => k_is)
    (case m__law_thing => k_is)
    (case pr0_Row_kinds => k_is)
    (case pr1_Row_kinds => k_is)
    (case pr2_Row_kinds => k_is)
    (case pr3_Row_kinds => k_is)
    (case z_sum => k_is)
    (case m_places_of => k_is)
    (case pr0_Row_places => k_is)
    (case pr1_Row_places => k_is)
    (case pr2_Row_places => k_is)
    (case pr3_Row_places => k_is)
    (case km_Row_NoneType => k_is)
    (case km_Row_bool => k_is)
    (case km_Row_int => k_is)
    (case km_Row_str => k_is)
    (case km_Row_list => k_is)
    (case km_Row_tuple => k_is)
    (case km_Row_dict => k_is)
    (case z_abs => k_is)
    (case m__law_right => k_is)
    (case m__law_begun => k_is)
    (case z_divmod => k_is)
    (case ca_Row => k_is)
    (case cn => k_is)
    (case ct => k_is)
    (case ty_Row => k_is)
    (case fl__law_cast => k_is)
    (case fc__law_cast => k_is)
    (case fk__law_cast => k_is)
    (case fl__law_any_of => k_is)
    (case fc__law_any_of => k_is)
    (case fk__law_any_of => k_is)
    (case fl__law_vast => k_is)
    (case fc__law_vast => k_is)
    (case fk__law_vast => k_is)
    (case fl__law_tidy => k_is)
    (case fc__law_tidy => k_is)
    (case fk__law_tidy => k_is)
    (case fl__law_drawn => k_is)
    (case fc__law_drawn => k_is)
    (case fk__law_drawn => k_is)
    (case fl_written_count => k_is)
    (case fc_written_count => k_is)
    (case fk_written_count => k_is)
    (case fl_is_integer => k_is)
    (case fc_is_integer => k_is)
    (case fk_is_integer => k_is)
    (case fl_is_count => k_is)
    (case fc_is_count => k_is)
    (case fk_is_count => k_is)
    (case fl_is_kind => k_is)
    (case fc_is_kind => k_is)
    (case fk_is_kind => k_is)
    (case fl_text_kind => k_is)
    (case fc_text_kind => k_is)
    (case fk_text_kind => k_is)
    (case fl_wrong_kind => k_is)
    (case fc_wrong_kind => k_is)
    (case fk_wrong_kind => k_is)
    (case fl_Row___init__ => k_is)
    (case fc_Row___init__ => k_is)
    (case fk_Row___init__ => k_is)
    (case fl_text_row => k_is)
    (case fc_text_row => k_is)
    (case fk_text_row => k_is)
    (case fl_Row_read => k_is)
    (case fc_Row_read => k_is)
    (case fk_Row_read => k_is)
    (case fl__law_sheet => k_is)
    (case fc__law_sheet => k_is)
    (case fk__law_sheet => k_is)
    (case fl__law_built => k_is)
    (case fc__law_built => k_is)
    (case fk__law_built => k_is)
    (case fl__law_near => k_is)
    (case fc__law_near => k_is)
    (case fk__law_near => k_is)
    (case fl__law_lot => k_is)
    (case fc__law_lot => k_is)
    (case fk__law_lot => k_is)
    (case fl_check_listed => k_is)
    (case fc_check_listed => k_is)
    (case fk_check_listed => k_is)
    (case fl_gathered => k_is)
    (case fc_gathered => k_is)
    (case fk_gathered => k_is)
    (case fl_Row_listed => k_is)
    (case fc_Row_listed => k_is)
    (case fk_Row_listed => k_is)
    (case fl__law_of => k_is)
    (case fc__law_of => k_is)
    (case fk__law_of => k_is)
    (case fl_kind_lines => k_is)
    (case fc_kind_lines => k_is)
    (case fk_kind_lines => k_is)
    (case fl_Row___str__ => k_is)
    (case fc_Row___str__ => k_is)
    (case fk_Row___str__ => k_is)
    (case fl_Row_text => k_is)
    (case fc_Row_text => k_is)
    (case fk_Row_text => k_is)
    (case fl_Row___eq__ => k_is)
    (case fc_Row___eq__ => k_is)
    (case fk_Row___eq__ => k_is)
    (case fl__law_thing => k_is)
    (case fc__law_thing => k_is)
    (case fk__law_thing => k_is)
    (case fl_Row_kinds => k_is)
    (case fc_Row_kinds => k_is)
    (case fk_Row_kinds => k_is)
    (case fl_places_of => k_is)
    (case fc_places_of => k_is)
    (case fk_places_of => k_is)
    (case fl_Row_places => k_is)
    (case fc_Row_places => k_is)
    (case fk_Row_places => k_is)
    (case fl__law_right => k_is)
    (case fc__law_right => k_is)
    (case fk__law_right => k_is)
    (case fl__law_begun => k_is)
    (case fc__law_begun => k_is)
    (case fk__law_begun => k_is)
    (case fl_law => k_is)
    (case fc_law => k_is)
    (case fk_law => k_is)
