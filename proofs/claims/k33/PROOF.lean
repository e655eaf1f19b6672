import PyProof.Rows.All
import Wide.All
import OpenK.AllK
import Wide.FinOn
import HandS.ForMost
import HandS.ForExc
import HandS.SlotsOwn
import HandS.ClsMeth
import HandS.Lambda
import HandS.Flow
import HandS.Star
import HandS.TupAny
import HandS.FStr
import HandS.MakeKw
import HandS.TryOnly
import HandS.TupLe
import HandS.WideBits
import HandS.Deep
import HandS.HotCalls
import HandS.Small
import HandS.IsInst
import HandS.SortInts
import HandS.Conv
import HandS.RaiseMore
import PyProof.ReprRoads
import PyProof.CallStr
import PyProof.Conv_bool
import HandS.Iter
import HandS.Rev
import KE.GoesMore
import PyProof.EnumMake
import PyProof.Draws
import HandS.Style
import HandS.EndBits
import KE.KNestM
import HandS.More
import HandS.SortKw
import KE.KDictPairs
import PyProof.EqAt
import PyProof.EqKinds
import HandS.Exc
import HandS.ExcInit
import KE.KExcInit
import HandS.ExcIs
import HandS.SetFor
import KE.KExcIs
import KE.KTryMore
import HandS.Dict
import HandS.DictComp
import HandS.Strs
import KE.KIndexOf
import HandS.Codes
import HandS.Text
import PySem.Challenge.RW_degreerows_k33_sides_made_and_refused
set_option Elab.async false
set_option linter.all false
set_option maxRecDepth 100000
set_option maxHeartbeats 1000000
namespace Dc
open PySem L2

inductive D where
  | non | bl (b : Bool) | int (i : Int) | str (x : Str)
  | tup (xs : List D) | lst (xs : List D) | dic (kvs : List (Key × D))
  | obj (n : Nat) (xs : List D)
  | ptr
  | clo (n : Nat) (xs : List D)
  | exc (n : Nat) (xs : List D)
  | adr (a : Addr)
  | scr (ns : List Int)
  | tpz (xs : List D)

structure Tx where
  K : PySem.W.Frag
  cl : Nat → Addr
  pl : Int → Int → Int → Prop
  ob : Nat → Nat → Option Bool := fun _ _ => none
  tb : List (Addr × Str) := []
  xf : Nat → Str := fun _ => "given"
  hot : Option (Addr × Nat × Addr) := none
structure Dx (T : Tx) where
  pa : Option Addr
  H0 : Hp
  fb : Addr → Prop
def Dx.wild {T : Tx} (c : Dx T) (a : Addr) : Prop := c.pa = some a ∨ a ∈ T.tb.map (·.1)

def Ex (H H' : Hp) : Prop := ∀ a o, H a = some o → H' a = some o
theorem Ex.rfl' {H : Hp} : Ex H H := fun _ _ h => h
theorem Ex.trans {H H1 H2 : Hp} (a : Ex H H1) (b : Ex H1 H2) : Ex H H2 := fun x o h => b x o (a x o h)
theorem Ex.new {H : Hp} {p : Addr} {o : HO} (h : H p = none) : Ex H (upd H p o) := fun a u e => by
  rw [upd_ne (ne_of_none e h)]; exact e
theorem Ex.free {H H' : Hp} {p : Addr} (e : Ex H H') (h : H' p = none) : H p = none := by
  cases q : H p with
  | none => rfl
  | some o => rw [e p o q] at h; cases h
theorem Ex.rd {H H' : Hp} {a : Addr} {u : HO} (e : Ex H H') (h : Rd H a u) : Rd H' a u := by
  rcases h with h | ⟨o, h⟩
  · exact .inl (e a _ h)
  · exact .inr ⟨o, e a _ h⟩
theorem Ex.sqL {K : PySem.W.Frag} {H H' : Hp} {a : Addr} {xs : List V} (e : Ex H H') (h : SqL K H a xs) : SqL K H' a xs := by
  rcases h with h | h
  · exact .inl (e.rd h)
  · exact .inr h
theorem Ex.sqT {K : PySem.W.Frag} {H H' : Hp} {a : Addr} {xs : List V} (e : Ex H H') (h : SqT K H a xs) : SqT K H' a xs := by
  rcases h with h | h
  · exact .inl (e.rd h)
  · exact .inr h
theorem Ex.slt {H H' : Hp} {a C dx : Addr} {vs : List (Option V)} (e : Ex H H') (h : SlX.Slt H a C dx vs) : SlX.Slt H' a C dx vs := by
  rcases h with ⟨h1, h2⟩ | ⟨h1, h2⟩
  · exact .inl ⟨e _ _ h1, h2⟩
  · exact .inr ⟨e _ _ h1, e _ _ h2⟩

mutual
inductive Den {T : Tx} (c : Dx T) (B : Hp) : V → D → Prop
  | non : Den c B .non .non
  | bl (b : Bool) : Den c B (.bl b) (.bl b)
  | int (i : Int) : Den c B (.int i) (.int i)
  | str (x : Str) : Den c B (.str x) (.str x)
  | tup {a : Addr} {xs : List V} {ds : List D} : SqT T.K B a xs → Dens c B xs ds → Den c B (.ref a) (.tup ds)
  | lst {a : Addr} {xs : List V} {ds : List D} : B a = some (.lst xs) → ¬ c.wild a → Dens c B xs ds → Den c B (.ref a) (.lst ds)
  | dic {a : Addr} {xs : List (Key × V)} {ds : List (Key × D)} : B a = some (.dK xs) → ¬ c.wild a → DenK c B xs ds → Den c B (.ref a) (.dic ds)
  | obj {a dx : Addr} {xs : List V} {n : Nat} {ds : List D} : SlX.Slt B a (T.cl n) dx (xs.map some) → Dens c B xs ds → Den c B (.ref a) (.obj n ds)
  | ptr {a : Addr} : c.pa = some a → Den c B (.ref a) .ptr
  | adr {a : Addr} : Den c B (.ref a) (.adr a)
  | clo {f c' : Addr} {q : Str} : B c' = some (LamX.CodeO c' q) → Den c B (.ref f) (.clo 0 [.adr f, .adr c', .str q])
  | scr {a : Addr} {ns : List Int} : SqL T.K B a (ns.map V.int) → Den c B (.ref a) (.scr ns)
  | exc {a p : Addr} {n : Nat} {v : V} {d : D} : T.hot = some (a, n, p) → B p = some (.xd [(T.xf n, v)]) → Den c B v d → Den c B (.ref a) (.exc n [d])
  | tpz {a : Addr} {o : PySem.Obj} {xs : List V} {ds : List D} : B a = some (.frz o (.tup xs)) → o.cls = .type "tuple" → o.dict = none → Dens c B xs ds → Den c B (.ref a) (.tpz ds)
inductive Dens {T : Tx} (c : Dx T) (B : Hp) : List V → List D → Prop
  | nil : Dens c B [] []
  | cons {v : V} {d : D} {vs : List V} {ds : List D} : Den c B v d → Dens c B vs ds → Dens c B (v :: vs) (d :: ds)
inductive DenK {T : Tx} (c : Dx T) (B : Hp) : List (Key × V) → List (Key × D) → Prop
  | nil : DenK c B [] []
  | cons {k : Key} {v : V} {d : D} {vs : List (Key × V)} {ds : List (Key × D)} : Den c B v d → DenK c B vs ds → DenK c B ((k, v) :: vs) ((k, d) :: ds)
end

mutual
theorem Den.mono {T : Tx} {c : Dx T} {B B' : Hp} (e : Ex B B') : ∀ {v : V} {d : D}, Den c B v d → Den c B' v d
  | _, _, .non => .non
  | _, _, .bl b => .bl b
  | _, _, .int i => .int i
  | _, _, .str x => .str x
  | _, _, .tup h r => .tup (e.sqT h) (Dens.mono e r)
  | _, _, .lst h n r => .lst (e _ _ h) n (Dens.mono e r)
  | _, _, .dic h n r => .dic (e _ _ h) n (DenK.mono e r)
  | _, _, .obj h r => .obj (e.slt h) (Dens.mono e r)
  | _, _, .ptr h => .ptr h
  | _, _, .adr => .adr
  | _, _, .clo h => .clo (e _ _ h)
  | _, _, .scr h => .scr (e.sqL h)
  | _, _, .exc h h1 r => .exc h (e _ _ h1) (Den.mono e r)
  | _, _, .tpz h h1 h2 r => .tpz (e _ _ h) h1 h2 (Dens.mono e r)
theorem Dens.mono {T : Tx} {c : Dx T} {B B' : Hp} (e : Ex B B') : ∀ {vs : List V} {ds : List D}, Dens c B vs ds → Dens c B' vs ds
  | _, _, .nil => .nil
  | _, _, .cons h r => .cons (Den.mono e h) (Dens.mono e r)
theorem DenK.mono {T : Tx} {c : Dx T} {B B' : Hp} (e : Ex B B') : ∀ {vs : List (Key × V)} {ds : List (Key × D)}, DenK c B vs ds → DenK c B' vs ds
  | _, _, .nil => .nil
  | _, _, .cons h r => .cons (Den.mono e h) (DenK.mono e r)
end
abbrev Dx.ent {T : Tx} (c : Dx T) (H : Hp) (F : Addr → Prop) : Dx T := { c with H0 := H, fb := F }
mutual
theorem Den.ent {T : Tx} {c : Dx T} {B : Hp} (H : Hp) (F : Addr → Prop) : ∀ {v : V} {d : D}, Den c B v d → Den (c.ent H F) B v d
  | _, _, .non => .non
  | _, _, .bl b => .bl b
  | _, _, .int i => .int i
  | _, _, .str x => .str x
  | _, _, .tup h r => .tup h (Dens.ent H F r)
  | _, _, .lst h n r => .lst h n (Dens.ent H F r)
  | _, _, .dic h n r => .dic h n (DenK.ent H F r)
  | _, _, .obj h r => .obj h (Dens.ent H F r)
  | _, _, .ptr h => .ptr h
  | _, _, .adr => .adr
  | _, _, .clo h => .clo h
  | _, _, .scr h => .scr h
  | _, _, .exc h h1 r => .exc h h1 (Den.ent H F r)
  | _, _, .tpz h h1 h2 r => .tpz h h1 h2 (Dens.ent H F r)
theorem Dens.ent {T : Tx} {c : Dx T} {B : Hp} (H : Hp) (F : Addr → Prop) : ∀ {vs : List V} {ds : List D}, Dens c B vs ds → Dens (c.ent H F) B vs ds
  | _, _, .nil => .nil
  | _, _, .cons h r => .cons (Den.ent H F h) (Dens.ent H F r)
theorem DenK.ent {T : Tx} {c : Dx T} {B : Hp} (H : Hp) (F : Addr → Prop) : ∀ {vs : List (Key × V)} {ds : List (Key × D)}, DenK c B vs ds → DenK (c.ent H F) B vs ds
  | _, _, .nil => .nil
  | _, _, .cons h r => .cons (Den.ent H F h) (DenK.ent H F r)
end
section
variable {T : Tx} {c : Dx T} {B B' H H' : Hp}
theorem Dens.length {vs : List V} {ds : List D} (h : Dens c B vs ds) : vs.length = ds.length := by
  induction vs generalizing ds with
  | nil => cases h; rfl
  | cons v vs ih => cases h with | cons _ r => simp [ih r]
theorem DenK.length {vs : List (Key × V)} {ds : List (Key × D)} (h : DenK c B vs ds) : vs.length = ds.length := by
  induction vs generalizing ds with
  | nil => cases h; rfl
  | cons v vs ih => cases h with | cons _ r => simp [ih r]
theorem Dens.get {vs : List V} {ds : List D} (h : Dens c B vs ds) {i : Nat} {d : D} (e : ds[i]? = some d) : ∃ v, vs[i]? = some v ∧ Den c B v d := by
  induction vs generalizing ds i with
  | nil => cases h; simp at e
  | cons v vs ih =>
    cases h with
    | cons h1 r =>
      cases i with
      | zero => simp at e; subst e; exact ⟨v, rfl, h1⟩
      | succ i => simp at e ⊢; exact ih r e
theorem Dens.append {vs ws : List V} {ds es : List D} (h : Dens c B vs ds) (g : Dens c B ws es) : Dens c B (vs ++ ws) (ds ++ es) := by
  induction vs generalizing ds with
  | nil => cases h; exact g
  | cons v vs ih => cases h with | cons h1 r => exact .cons h1 (ih r)
theorem Dens.take {vs : List V} {ds : List D} (h : Dens c B vs ds) (n : Nat) : Dens c B (vs.take n) (ds.take n) := by
  induction vs generalizing ds n with
  | nil => cases h; simp; exact .nil
  | cons v vs ih =>
    cases h with
    | cons h1 r =>
      cases n with
      | zero => exact .nil
      | succ n => exact .cons h1 (ih r n)
theorem Dens.drop {vs : List V} {ds : List D} (h : Dens c B vs ds) (n : Nat) : Dens c B (vs.drop n) (ds.drop n) := by
  induction vs generalizing ds n with
  | nil => cases h; simp; exact .nil
  | cons v vs ih =>
    cases h with
    | cons h1 r =>
      cases n with
      | zero => exact .cons h1 r
      | succ n => exact ih r n
theorem Dens.reverse {vs : List V} {ds : List D} (h : Dens c B vs ds) : Dens c B vs.reverse ds.reverse := by
  induction vs generalizing ds with
  | nil => cases h; exact .nil
  | cons v vs ih => cases h with | cons h1 r => simp; exact (ih r).append (.cons h1 .nil)
theorem Dens.set {vs : List V} {ds : List D} (h : Dens c B vs ds) (n : Nat) {v : V} {d : D} (g : Den c B v d) : Dens c B (vs.set n v) (ds.set n d) := by
  induction vs generalizing ds n with
  | nil => cases h; exact .nil
  | cons w vs ih =>
    cases h with
    | cons h1 r =>
      cases n with
      | zero => exact .cons g r
      | succ n => exact .cons h1 (ih r n)
theorem Dens.ints : ∀ (l : List Int), Dens c B (l.map V.int) (l.map D.int)
  | [] => .nil
  | i :: l => .cons (.int i) (Dens.ints l)
theorem Dens.toInts : ∀ {l : List Int} {vs : List V}, Dens c B vs (l.map D.int) → vs = l.map V.int
  | [], _, .nil => rfl
  | i :: l, _, .cons (.int _) r => by rw [Dens.toInts r]; rfl
theorem Dens.toBls : ∀ {l : List Bool} {vs : List V}, Dens c B vs (l.map D.bl) → vs = l.map V.bl
  | [], _, .nil => rfl
  | i :: l, _, .cons (.bl _) r => by rw [Dens.toBls r]; rfl
end

def PailAt (P : Int → Int → Int → Prop) (H : Hp) (a : Addr) : Prop := ∃ x y z : Int, H a = some (.lst [.int x, .int y, .int z]) ∧ P x y z
def nT (o : HO) : Prop := ∀ ps, o ≠ .tbl ps
def lsd (o : HO) : Prop := nT o ∧ ∀ x y, o ≠ LamX.CodeO x y
theorem lsd.nt {o : HO} (h : lsd o) : nT o := h.1
theorem lsd.nc {o : HO} (h : lsd o) (x : Addr) (y : Str) : o ≠ LamX.CodeO x y := h.2 x y
theorem lsd.of {o : HO} (h1 : ∀ ps, o ≠ .tbl ps) (h2 : ∀ f, o ≠ .ext f) : lsd o := ⟨h1, fun x y h => h2 _ h⟩
theorem lsd.lst {xs : List V} : lsd (.lst xs) := .of (fun _ h => by cases h) (fun _ h => by cases h)
theorem lsd.dK {xs : List (Key × V)} : lsd (.dK xs) := .of (fun _ h => by cases h) (fun _ h => by cases h)
theorem lsd.xd {xs : List (Str × V)} : lsd (.xd xs) := .of (fun _ h => by cases h) (fun _ h => by cases h)
theorem lsd.own {a : Addr} : lsd (.own a) := .of (fun _ h => by cases h) (fun _ h => by cases h)
theorem lsd.ins {a b : Addr} {xs : List (Str × V)} : lsd (.ins a b xs) := .of (fun _ h => by cases h) (fun _ h => by cases h)
theorem lsd.slO (a C dx : Addr) (vs : List (Option V)) : lsd (SlX.SlO a C dx vs) := by
  refine ⟨fun ps h => (by unfold SlX.SlO at h; cases h), fun x y h => ?_⟩
  unfold SlX.SlO LamX.CodeO at h
  injection h with h
  let o : Obj := { cls := .none, data := .fields #[.none, .str y 0] }
  let hp : Heap := { objs := Array.replicate (x + 1) o }
  have g : ∀ b ob, hp.get? b = some ob → ob = o := fun b ob e => by
    unfold Heap.get? at e
    have e1 : hp.objs[b]? = if b < x + 1 then some o else none := by simp [hp, Array.getElem?_replicate]
    rw [e1] at e
    split at e
    · cases e
    · rename_i q _
      split at e
      · exact (Option.some.inj e).symm
      · cases e
  have gx : hp.get? x = some o := by
    unfold Heap.get?
    have e1 : hp.objs[x]? = some o := by simp [hp, Array.getElem?_replicate]
    rw [e1]
  have p : ∃ (oc : Obj) (vs : Array Value) (t : Tok), hp.get? x = some oc ∧ oc.data = .fields vs ∧ vs[1]? = some (.str y t) := ⟨o, _, 0, gx, rfl, rfl⟩
  have p2 := (congrFun h hp).mpr p
  obtain ⟨sl, e, _⟩ := p2
  have e2 := g _ _ e
  have e3 := congrArg Obj.data e2
  cases e3
def Pail {T : Tx} (c : Dx T) (B H : Hp) : Prop := (∀ a, c.pa = some a → PailAt T.pl H a) ∧ LamX.Tabs T.tb H ∧ (∀ a, c.wild a → B a = none) ∧ ∀ a ps, H a = some (.tbl ps) → a ∈ T.tb.map (·.1)
theorem Pail.pa {T : Tx} {c : Dx T} {B H : Hp} (h : Pail c B H) : ∀ a, c.pa = some a → PailAt T.pl H a := h.1
theorem Pail.tb {T : Tx} {c : Dx T} {B H : Hp} (h : Pail c B H) : LamX.Tabs T.tb H := h.2.1
theorem Pail.nb {T : Tx} {c : Dx T} {B H : Hp} (h : Pail c B H) : ∀ a, c.wild a → B a = none := h.2.2.1
theorem Pail.only {T : Tx} {c : Dx T} {B H : Hp} (h : Pail c B H) : ∀ a ps, H a = some (.tbl ps) → a ∈ T.tb.map (·.1) := h.2.2.2
theorem Pail.there {T : Tx} {c : Dx T} {B H : Hp} {a : Addr} (h : Pail c B H) (w : c.wild a) : ∃ o, H a = some o := by
  rcases w with w | w
  · obtain ⟨_, _, _, e, _⟩ := h.pa a w
    exact ⟨_, e⟩
  · obtain ⟨p, hp, rfl⟩ := List.mem_map.mp w
    obtain ⟨ps, e, _⟩ := h.tb p hp
    exact ⟨_, e⟩
theorem PailAt.ex {P : Int → Int → Int → Prop} {H H' : Hp} {a : Addr} (h : PailAt P H a) (e : Ex H H') : PailAt P H' a := by
  obtain ⟨x, y, z, h, r⟩ := h
  exact ⟨x, y, z, e _ _ h, r⟩
theorem Pail.toB {T : Tx} {c : Dx T} {B B' H : Hp} (h : Pail c B H) (nb : ∀ a, c.wild a → B' a = none) : Pail c B' H := ⟨h.pa, h.tb, nb, h.only⟩
theorem Pail.new {T : Tx} {c : Dx T} {B B' H : Hp} {p : Addr} {o : HO} (h : Pail c B H) (hp : H p = none) (n : nT o) (nb : ∀ a, c.wild a → B' a = none) : Pail c B' (upd H p o) :=
  ⟨fun a e => (h.pa a e).ex (Ex.new hp), h.tb.ext (Ex.new hp), nb, fun a ps e => by
    by_cases q : a = p
    · subst q; rw [upd_same] at e; exact (n ps (Option.some.inj e)).elim
    · rw [upd_ne q] at e; exact h.only a ps e⟩
theorem Pail.put {T : Tx} {c : Dx T} {B H : Hp} {p : Addr} {o u : HO} (h : Pail c B H) (hp : H p = some u) (nw : ¬ c.wild p) (n : nT o) (hu : lsd u) : Pail c B (upd H p o) := by
  have ne : ∀ a, c.wild a → a ≠ p := fun a w e => nw (e ▸ w)
  refine ⟨fun a e => ?_, fun q hq => ?_, h.nb, fun a ps e => ?_⟩
  · obtain ⟨x, y, z, e1, r⟩ := h.pa a e
    exact ⟨x, y, z, by rw [upd_ne (ne a (.inl e))]; exact e1, r⟩
  · obtain ⟨ps, e1, e2, e3⟩ := h.tb q hq
    refine ⟨ps, by rw [upd_ne (ne q.1 (.inr (List.mem_map_of_mem hq)))]; exact e1, e2, fun pos cv hc => ?_⟩
    obtain ⟨x, r1, r2⟩ := e3 pos cv hc
    refine ⟨x, r1, ?_⟩
    rw [upd_ne (fun z => ?_)]
    · exact r2
    · rw [z, hp] at r2
      exact hu.nc _ _ (Option.some.inj r2)
  · by_cases q : a = p
    · subst q; rw [upd_same] at e; exact (n ps (Option.some.inj e)).elim
    · rw [upd_ne q] at e; exact h.only a ps e
def ExP {T : Tx} (c : Dx T) (H H' : Hp) : Prop := ∀ a o, ¬ c.wild a → H a = some o → H' a = some o
theorem ExP.rfl' {T : Tx} {c : Dx T} {H : Hp} : ExP c H H := fun _ _ _ h => h
theorem ExP.trans {T : Tx} {c : Dx T} {H H1 H2 : Hp} (a : ExP c H H1) (b : ExP c H1 H2) : ExP c H H2 := fun x o n h => b x o n (a x o n h)
theorem Ex.p {T : Tx} {c : Dx T} {H H' : Hp} (e : Ex H H') : ExP c H H' := fun a o _ h => e a o h

inductive Sl where
  | no | sh (d : D) | own (d : D)
abbrev Env := List Sl

inductive OwnAt {T : Tx} (c : Dx T) (B H : Hp) (a : Addr) : D → Prop
  | lst {xs : List V} {ds : List D} : H a = some (.lst xs) → Dens c B xs ds → OwnAt c B H a (.lst ds)
  | dic {xs : List (Key × V)} {ds : List (Key × D)} : H a = some (.dK xs) → DenK c B xs ds → OwnAt c B H a (.dic ds)
theorem OwnAt.there {T : Tx} {c : Dx T} {B H : Hp} {a : Addr} {d : D} (h : OwnAt c B H a d) : ∃ o, H a = some o := by
  cases h with
  | lst h _ => exact ⟨_, h⟩
  | dic h _ => exact ⟨_, h⟩
theorem OwnAt.thereL {T : Tx} {c : Dx T} {B H : Hp} {a : Addr} {d : D} (h : OwnAt c B H a d) : ∃ o, lsd o ∧ H a = some o := by
  cases h with
  | @lst xs _ h _ => exact ⟨.lst xs, .lst, h⟩
  | @dic xs _ h _ => exact ⟨.dK xs, .dK, h⟩
theorem OwnAt.mono {T : Tx} {c : Dx T} {B B' H H' : Hp} {a : Addr} {d : D} (h : OwnAt c B H a d) (e : Ex B B') (k : ∀ o, H a = some o → H' a = some o) : OwnAt c B' H' a d := by
  cases h with
  | lst h r => exact .lst (k _ h) (r.mono e)
  | dic h r => exact .dic (k _ h) (r.mono e)
structure Mine {T : Tx} (c : Dx T) (B : Hp) (a : Addr) : Prop where
  b : B a = none
  p : ¬ c.wild a
  h : c.H0 a = none
  f : ¬ c.fb a

inductive SlR {T : Tx} (c : Dx T) (B H : Hp) : Option V → Sl → Prop
  | no {o : Option V} : SlR c B H o .no
  | sh {v : V} {d : D} : Den c B v d → SlR c B H (some v) (.sh d)
  | own {a : Addr} {d : D} : Mine c B a → OwnAt c B H a d → SlR c B H (some (.ref a)) (.own d)

structure Rel {T : Tx} (c : Dx T) (σ : St) (B H : Hp) (ρ : Env) : Prop where
  ex : Ex B H
  pail : Pail c B H
  ent : ExP c c.H0 H
  fb : ∀ a, c.fb a → (∃ o, lsd o ∧ H a = some o) ∧ B a = none ∧ ¬ c.wild a
  len : σ.length = ρ.length
  sl : ∀ (i : Nat) (o : Option V) (s : Sl), σ[i]? = some o → ρ[i]? = some s → SlR c B H o s
  dj : ∀ (i j : Nat) (a : Addr) (d e : D), σ[i]? = some (some (.ref a)) → ρ[i]? = some (.own d) → σ[j]? = some (some (.ref a)) → ρ[j]? = some (.own e) → i = j

theorem Mine.ne {T : Tx} {c : Dx T} {B H : Hp} {a p : Addr} {d : D} (o : OwnAt c B H a d) (h : H p = none) : a ≠ p := by
  obtain ⟨u, e⟩ := o.there
  exact ne_of_none e h
section
variable {T : Tx} {c : Dx T} {σ : St} {B B' H H' : Hp} {ρ : Env}
theorem Rel.grow (R : Rel c σ B H ρ) (e : Ex B B') (e' : Ex B' H') (k : ExP c H H') (hp : Pail c B' H') (hm : ∀ a d (i : Nat), σ[i]? = some (some (.ref a)) → ρ[i]? = some (.own d) → B' a = none) (hf : ∀ a, c.fb a → B' a = none) : Rel c σ B' H' ρ where
  ex := e'
  pail := hp
  ent := R.ent.trans k
  fb := fun a h => let ⟨⟨o, h0, h1⟩, _, h3⟩ := R.fb a h; ⟨⟨o, h0, k _ _ h3 h1⟩, hf a h, h3⟩
  len := R.len
  sl := fun i o s h1 h2 => by
    have h := R.sl i o s h1 h2
    cases h with
    | no => exact .no
    | sh h => exact .sh (h.mono e)
    | own m h => exact .own ⟨hm _ _ _ h1 h2, m.p, m.h, m.f⟩ (h.mono e fun o q => k _ o m.p q)
  dj := R.dj
theorem Rel.ownB (R : Rel c σ B H ρ) {i : Nat} {a : Addr} {d : D} (h1 : σ[i]? = some (some (.ref a))) (h2 : ρ[i]? = some (.own d)) : Mine c B a ∧ OwnAt c B H a d := by
  have h := R.sl i _ _ h1 h2
  cases h with
  | own m h => exact ⟨m, h⟩
theorem Rel.newB (R : Rel c σ B H ρ) {p : Addr} {o : HO} (hp : H p = none) (nt : nT o := by intro ps h; cases h) : Rel c σ (upd B p o) (upd H p o) ρ := by
  have bp : B p = none := R.ex.free hp
  refine R.grow (Ex.new bp) (fun a u h => ?_) (Ex.p (Ex.new hp)) (R.pail.new hp nt fun a w => ?_) (fun a d i h1 h2 => ?_) (fun a h => ?_)
  · by_cases q : a = p
    · subst q; rw [upd_same] at h ⊢; exact h
    · rw [upd_ne q] at h ⊢; exact R.ex a u h
  · obtain ⟨u, hu⟩ := R.pail.there w
    rw [upd_ne (ne_of_none hu hp)]; exact R.pail.nb a w
  · obtain ⟨m, h⟩ := R.ownB h1 h2
    rw [upd_ne (Mine.ne h hp)]; exact m.b
  · obtain ⟨⟨u, _, q⟩, q2, _⟩ := R.fb a h
    rw [upd_ne (ne_of_none q hp)]; exact q2
theorem Rel.newH (R : Rel c σ B H ρ) {p : Addr} {o : HO} (hp : H p = none) (nt : nT o := by intro ps h; cases h) : Rel c σ B (upd H p o) ρ :=
  R.grow Ex.rfl' (R.ex.trans (Ex.new hp)) (Ex.p (Ex.new hp)) (R.pail.new hp nt R.pail.nb) (fun a d i h1 h2 => (R.ownB h1 h2).1.b) (fun a h => (R.fb a h).2.1)
theorem Rel.mine (R : Rel c σ B H ρ) {p : Addr} (hp : H p = none) : Mine c B p := by
  have np : ¬ c.wild p := fun e => by
    obtain ⟨_, h⟩ := R.pail.there e
    rw [hp] at h; cases h
  refine ⟨R.ex.free hp, np, ?_, fun q => by obtain ⟨⟨o, _, h⟩, _⟩ := R.fb p q; rw [hp] at h; cases h⟩
  cases q : c.H0 p with
  | none => rfl
  | some o => rw [R.ent p o np q] at hp; cases hp
end

inductive Tag where
  | p | f | b (i : Nat)
inductive Tm {T : Tx} (c : Dx T) (B H : Hp) : V → D → Prop
  | den {v : V} {d : D} : Den c B v d → Tm c B H v d
  | own {a : Addr} {d : D} : ¬ c.wild a → OwnAt c B H a d → Tm c B H (.ref a) d
inductive Tg {T : Tx} (c : Dx T) (σ : St) (B H : Hp) (ρ : Env) : V → D → Tag → Prop
  | p {v : V} {d : D} : Den c B v d → Tg c σ B H ρ v d .p
  | f {a : Addr} {d : D} : Mine c B a → OwnAt c B H a d → (∀ (i : Nat) (e : D), σ[i]? = some (some (.ref a)) → ρ[i]? = some (.own e) → False) → Tg c σ B H ρ (.ref a) d .f
  | b {a : Addr} {d : D} {i : Nat} : σ[i]? = some (some (.ref a)) → ρ[i]? = some (.own d) → Tg c σ B H ρ (.ref a) d (.b i)
section
variable {T : Tx} {c : Dx T} {σ : St} {B B' H H' : Hp} {ρ : Env} {v : V} {d : D} {g : Tag}
theorem Tm.mono (h : Tm c B H v d) (e : Ex B B') (k : ExP c H H') : Tm c B' H' v d := by
  cases h with
  | den h => exact .den (h.mono e)
  | own n h => exact .own n (h.mono e fun o q => k _ o n q)
theorem Tg.tm (h : Tg c σ B H ρ v d g) (R : Rel c σ B H ρ) : Tm c B H v d := by
  cases h with
  | p h => exact .den h
  | f m h _ => exact .own m.p h
  | b h1 h2 => exact .own (R.ownB h1 h2).1.p (R.ownB h1 h2).2
theorem Tm.list {ds : List D} (h : Tm c B H v (.lst ds)) (ex : Ex B H) : ∃ a xs, v = .ref a ∧ H a = some (.lst xs) ∧ Dens c B xs ds := by
  cases h with
  | den h => cases h with | lst h _ r => exact ⟨_, _, rfl, ex _ _ h, r⟩
  | own _ h => cases h with | lst h r => exact ⟨_, _, rfl, h, r⟩
theorem Tm.dict {ds : List (Key × D)} (h : Tm c B H v (.dic ds)) (ex : Ex B H) : ∃ a xs, v = .ref a ∧ H a = some (.dK xs) ∧ DenK c B xs ds := by
  cases h with
  | den h => cases h with | dic h _ r => exact ⟨_, _, rfl, ex _ _ h, r⟩
  | own _ h => cases h with | dic h r => exact ⟨_, _, rfl, h, r⟩
theorem Tm.tuple {ds : List D} (h : Tm c B H v (.tup ds)) (ex : Ex B H) : ∃ a xs, v = .ref a ∧ SqT T.K H a xs ∧ Dens c B xs ds := by
  cases h with
  | den h => cases h with | tup h r => exact ⟨_, _, rfl, ex.sqT h, r⟩
  | own _ h => cases h
theorem Tm.int_ {i : Int} (h : Tm c B H v (.int i)) : v = .int i := by
  cases h with
  | den h => cases h; rfl
  | own _ h => cases h
theorem Tm.str_ {x : Str} (h : Tm c B H v (.str x)) : v = .str x := by
  cases h with
  | den h => cases h; rfl
  | own _ h => cases h
theorem Tm.bl_ {b : Bool} (h : Tm c B H v (.bl b)) : v = .bl b := by
  cases h with
  | den h => cases h; rfl
  | own _ h => cases h
theorem Tm.non_ (h : Tm c B H v .non) : v = .non := by
  cases h with
  | den h => cases h; rfl
  | own _ h => cases h
theorem Tm.scr_ {ns : List Int} (h : Tm c B H v (.scr ns)) (ex : Ex B H) : ∃ a, v = .ref a ∧ SqL T.K H a (ns.map V.int) := by
  cases h with
  | den h => cases h with | scr h => exact ⟨_, rfl, ex.sqL h⟩
  | own _ h => cases h
theorem Tm.obj_ {n : Nat} {ds : List D} (h : Tm c B H v (.obj n ds)) (ex : Ex B H) : ∃ a dx xs, v = .ref a ∧ SlX.Slt H a (T.cl n) dx (xs.map some) ∧ Dens c B xs ds := by
  cases h with
  | den h => cases h with | obj h r => exact ⟨_, _, _, rfl, ex.slt h, r⟩
  | own _ h => cases h
end

def leak (d : D) (g : Tag) (ρ : Env) : Env := match g with
  | .b i => ρ.set i (.sh d)
  | _ => ρ
section
variable {T : Tx} {c : Dx T} {σ : St} {B H : Hp} {ρ : Env} {v : V} {d : D} {g : Tag}
theorem OwnAt.tell {a : Addr} (h : OwnAt c B H a d) (m : Mine c B a) (ex : Ex B H) : ∃ o, H a = some o ∧ Ex B (upd B a o) ∧ Ex (upd B a o) H ∧ Den c (upd B a o) (.ref a) d := by
  have go : ∀ o, H a = some o → Ex (upd B a o) H := fun o ho b u q => by
    by_cases e : b = a
    · subst e; rw [upd_same] at q; rw [← q]; exact ho
    · rw [upd_ne e] at q; exact ex b u q
  cases h with
  | lst h r => exact ⟨_, h, Ex.new m.b, go _ h, .lst upd_same m.p (r.mono (Ex.new m.b))⟩
  | dic h r => exact ⟨_, h, Ex.new m.b, go _ h, .dic upd_same m.p (r.mono (Ex.new m.b))⟩
theorem leak_ok (R : Rel c σ B H ρ) (h : Tg c σ B H ρ v d g) : ∃ B', Ex B B' ∧ Rel c σ B' H (leak d g ρ) ∧ Den c B' v d := by
  cases h with
  | p h => exact ⟨B, Ex.rfl', R, h⟩
  | @f a d m h n =>
    obtain ⟨o, ho, e1, e2, q⟩ := h.tell m R.ex
    refine ⟨upd B a o, e1, R.grow e1 e2 ExP.rfl' (R.pail.toB fun p e => ?_) (fun p u i h1 h2 => ?_) (fun p w => ?_), q⟩
    · rw [upd_ne (fun z => m.p (by rw [← z]; exact e))]; exact R.pail.nb p e
    · have ne : p ≠ a := fun z => n i u (by rw [← z]; exact h1) h2
      rw [upd_ne ne]; exact (R.ownB h1 h2).1.b
    · rw [upd_ne (fun z => m.f (by rw [← z]; exact w))]; exact (R.fb p w).2.1
  | @b a d i h1 h2 =>
    obtain ⟨m, h⟩ := R.ownB h1 h2
    obtain ⟨o, ho, e1, e2, q⟩ := h.tell m R.ex
    have hi : i < ρ.length := (List.getElem?_eq_some_iff.mp h2).1
    refine ⟨upd B a o, e1, ⟨e2, R.pail.toB fun p e => ?_, R.ent, fun p w => ⟨(R.fb p w).1, by rw [upd_ne (fun z => m.f (by rw [← z]; exact w))]; exact (R.fb p w).2.1, (R.fb p w).2.2⟩, by simp [R.len, leak], fun j u s g1 g2 => ?_, fun j k p x y a1 a2 a3 a4 => ?_⟩, q⟩
    · rw [upd_ne (fun z => m.p (by rw [← z]; exact e))]; exact R.pail.nb p e
    · by_cases ji : j = i
      · subst ji
        rw [show leak d (.b j) ρ = ρ.set j (.sh d) from rfl, List.getElem?_set_self hi] at g2
        rw [h1] at g1; cases g1; cases g2
        exact .sh q
      · rw [show leak d (.b i) ρ = ρ.set i (.sh d) from rfl, List.getElem?_set_ne (Ne.symm ji)] at g2
        have z := R.sl j u s g1 g2
        cases z with
        | no => exact .no
        | sh z => exact .sh (z.mono e1)
        | @own p e m' z =>
          have ne : p ≠ a := fun w => ji (R.dj j i a e d (by rw [← w]; exact g1) g2 h1 h2)
          exact .own ⟨by rw [upd_ne ne]; exact m'.b, m'.p, m'.h, m'.f⟩ (z.mono e1 fun _ w => w)
    · have back : ∀ {j : Nat} {x : D}, (leak d (.b i) ρ)[j]? = some (.own x) → ρ[j]? = some (.own x) := fun {j x} w => by
        by_cases ji : j = i
        · subst ji
          rw [show leak d (.b j) ρ = ρ.set j (.sh d) from rfl, List.getElem?_set_self hi] at w; cases w
        · rwa [show leak d (.b i) ρ = ρ.set i (.sh d) from rfl, List.getElem?_set_ne (Ne.symm ji)] at w
      exact R.dj j k p x y a1 (back a2) a3 (back a4)
end
end Dc
set_option maxHeartbeats 1000000
namespace Dc
open PySem L2

abbrev XQ := D → Env → Prop
abbrev EQ := D → Tag → Env → Prop
abbrev RE := XQ → Env → EQ → Prop
abbrev RA := XQ → Env → (List D → Env → Prop) → Prop
abbrev RT := XQ → Env → (Bool → Env → Prop) → Prop
structure Kd where
  nx : Env → Prop
  rt : D → Tag → Env → Prop
  bk : Env → Prop := fun _ => False
  ct : Env → Prop := fun _ => False
  ex : XQ
abbrev RS := Kd → Env → Prop

inductive XDen {T : Tx} (c : Dx T) (B : Hp) : Value → Option Addr → D → Prop
  | bare {n : Nat} : XDen c B (.ref (T.cl n)) none (.exc n [])
  | one {n : Nat} {p : Addr} {v : V} {d : D} : B p = some (.xd [(T.xf n, v)]) → Den c B v d → XDen c B (.ref (T.cl n)) (some p) (.exc n [d])

def XW {T : Tx} (c : Dx T) (W : WX) (B : Hp) (x : XQ) : Prop :=
  ∀ d ρ' cls dd σ' B' H', x d ρ' → Ex B B' → Rel c σ' B' H' ρ' → XDen c B' cls dd d → W cls dd σ' H'
theorem XW.up {T : Tx} {c : Dx T} {W : WX} {B B' : Hp} {x : XQ} (h : XW c W B x) (e : Ex B B') : XW c W B' x := fun d ρ cls dd σ B2 H q e2 => h d ρ cls dd σ B2 H q (e.trans e2)
def noX : XQ := fun _ _ => False
theorem XW.no {T : Tx} {c : Dx T} {W : WX} {B : Hp} : XW c W B noX := fun _ _ _ _ _ _ _ q => q.elim

def liftE (T : Tx) (W : WX) (t : RE) : TE := fun σ H Q' => ∃ c : Dx T, ∃ B ρ x Q, Rel c σ B H ρ ∧ XW c W B x ∧ t x ρ Q ∧
  ∀ d g ρ' v B' H', Q d g ρ' → Ex B B' → ExP c H H' → Rel c σ B' H' ρ' → Tg c σ B' H' ρ' v d g → Q' v H'
def liftT (T : Tx) (W : WX) (t : RT) : TT := fun σ H Q' => ∃ c : Dx T, ∃ B ρ x Q, Rel c σ B H ρ ∧ XW c W B x ∧ t x ρ Q ∧
  ∀ b ρ' B' H', Q b ρ' → Ex B B' → ExP c H H' → Rel c σ B' H' ρ' → Q' b H'
def liftA (T : Tx) (W : WX) (t : RA) : TA := fun σ H Q' => ∃ c : Dx T, ∃ B ρ x Q, Rel c σ B H ρ ∧ XW c W B x ∧ t x ρ Q ∧
  ∀ ds ρ' vs B' H', Q ds ρ' → Ex B B' → ExP c H H' → Rel c σ B' H' ρ' → Dens c B' vs ds → Q' vs H'
inductive Tms {T : Tx} (c : Dx T) (B H : Hp) : List V → List D → Prop
  | nil : Tms c B H [] []
  | cons {v : V} {d : D} {vs : List V} {ds : List D} : Tm c B H v d → Tms c B H vs ds → Tms c B H (v :: vs) (d :: ds)
theorem Tms.mono {T : Tx} {c : Dx T} {B B' H H' : Hp} (e : Ex B B') (k : ExP c H H') : ∀ {vs : List V} {ds : List D}, Tms c B H vs ds → Tms c B' H' vs ds
  | _, _, .nil => .nil
  | _, _, .cons h r => .cons (h.mono e k) (r.mono e k)
def liftB (T : Tx) (W : WX) (t : RA) : TA := fun σ H Q' => ∃ c : Dx T, ∃ B ρ x Q, Rel c σ B H ρ ∧ XW c W B x ∧ t x ρ Q ∧
  ∀ ds ρ' vs B' H', Q ds ρ' → Ex B B' → ExP c H H' → Rel c σ B' H' ρ' → Tms c B' H' vs ds → Q' vs H'
def liftS (T : Tx) (W : WX) (t : RS) : TS := fun Dn σ H => ∃ c : Dx T, ∃ B ρ k, Rel c σ B H ρ ∧ XW c W B k.ex ∧ t k ρ ∧
  (∀ ρ' σ' B' H', k.nx ρ' → Ex B B' → Rel c σ' B' H' ρ' → Dn.nx σ' H') ∧
  (∀ d g ρ' v σ' B' H', k.rt d g ρ' → Ex B B' → Rel c σ' B' H' ρ' → Tg c σ' B' H' ρ' v d g → Dn.rt v H') ∧
  (∀ ρ' σ' B' H', k.bk ρ' → Ex B B' → Rel c σ' B' H' ρ' → Dn.bk σ' H') ∧
  (∀ ρ' σ' B' H', k.ct ρ' → Ex B B' → Rel c σ' B' H' ρ' → Dn.ct σ' H')

end Dc
namespace L2
theorem PE.imp {X : Cx} {e : PySem.Expr} {t t' : TE} (h : PE X e t) (k : ∀ σ H Q, t' σ H Q → t σ H Q) : PE X e t' := ⟨fun pins s σ H Q I q => h.run pins s σ H Q I (k σ H Q q)⟩
theorem PT.imp {X : Cx} {e : PySem.Expr} {t t' : TT} (h : PT X e t) (k : ∀ σ H Q, t' σ H Q → t σ H Q) : PT X e t' := ⟨fun pins s σ H Q I q => h.run pins s σ H Q I (k σ H Q q)⟩
theorem PW.imp {X : Cx} {e : PySem.Expr} {t t' : TT} (h : PW X e t) (k : ∀ σ H Q, t' σ H Q → t σ H Q) : PW X e t' := ⟨fun w pins s σ H Q I q => h.run w pins s σ H Q I (k σ H Q q)⟩
theorem PA.imp {X : Cx} {e : List PySem.Expr} {t t' : TA} (h : PA X e t) (k : ∀ σ H Q, t' σ H Q → t σ H Q) : PA X e t' := ⟨fun p pins s σ H Q I q => h.run p pins s σ H Q I (k σ H Q q)⟩
theorem PS.imp {X : Cx} {e : PySem.Stmt} {t t' : TS} (h : PS X e t) (k : ∀ D σ H, t' D σ H → t D σ H) : PS X e t' := ⟨fun pins s σ H D I q => h.run pins s σ H D I (k D σ H q)⟩
theorem PSs.imp {X : Cx} {e : List PySem.Stmt} {t t' : TS} (h : PSs X e t) (k : ∀ D σ H, t' D σ H → t D σ H) : PSs X e t' := ⟨fun pins s σ H D I q => h.run pins s σ H D I (k D σ H q)⟩
end L2
namespace Dc
open PySem L2

def Res {T : Tx} (c : Dx T) (B H H' : Hp) (v : V) (d : D) (g : Tag) : Prop :=
  ∃ B', Ex B B' ∧ Ex H H' ∧ ∀ σ ρ, Rel c σ B H ρ → Rel c σ B' H' ρ ∧ Tg c σ B' H' ρ v d g
section
variable {T : Tx} {c : Dx T} {B H : Hp} {v : V} {d : D} {p : Addr}
theorem Res.den (h : Den c B v d) : Res c B H H v d .p := ⟨B, Ex.rfl', Ex.rfl', fun _ _ R => ⟨R, .p h⟩⟩
theorem Res.int (i : Int) : Res c B H H (.int i) (.int i) .p := Res.den (.int i)
theorem Res.str (i : Str) : Res c B H H (.str i) (.str i) .p := Res.den (.str i)
theorem Res.bl (i : Bool) : Res c B H H (.bl i) (.bl i) .p := Res.den (.bl i)
theorem Res.newT {xs : List V} {ds : List D} (ex : Ex B H) (hp : H p = none) (r : Dens c B xs ds) : Res c B H (upd H p (.tup xs)) (.ref p) (.tup ds) .p :=
  ⟨upd B p (.tup xs), Ex.new (ex.free hp), Ex.new hp, fun _ _ R => ⟨R.newB hp, .p (.tup (.inl (.inl upd_same)) (r.mono (Ex.new (ex.free hp))))⟩⟩
theorem Res.newO {o : HO} {d : D} (ex : Ex B H) (hp : H p = none) (r : OwnAt c B (upd H p o) p d) : Res c B H (upd H p o) (.ref p) d .f := by
  refine ⟨B, Ex.rfl', Ex.new hp, fun σ ρ R => ?_⟩
  have m := R.mine hp
  refine ⟨R.newH hp (fun ps h => by
    subst h
    cases r with
    | lst h _ => rw [upd_same] at h; cases h
    | dic h _ => rw [upd_same] at h; cases h), .f m r fun i e h1 h2 => ?_⟩
  exact Mine.ne (R.ownB h1 h2).2 hp rfl
theorem Res.newL {xs : List V} {ds : List D} (ex : Ex B H) (hp : H p = none) (r : Dens c B xs ds) : Res c B H (upd H p (.lst xs)) (.ref p) (.lst ds) .f := Res.newO ex hp (.lst upd_same r)
theorem Res.newD {xs : List (Key × V)} {ds : List (Key × D)} (ex : Ex B H) (hp : H p = none) (r : DenK c B xs ds) : Res c B H (upd H p (.dK xs)) (.ref p) (.dic ds) .f := Res.newO ex hp (.dic upd_same r)
end
def P2 (T : Tx) (r : R2) (f : D → D → (D → Tag → Prop) → Prop) : Prop := ∀ (c : Dx T) (B H : Hp) (v1 v2 : V) (d1 d2 : D) (k : D → Tag → Prop) (Q' : VK), Ex B H → Tm c B H v1 d1 → Tm c B H v2 d2 → f d1 d2 k →
  (∀ d g v H', k d g → Res c B H H' v d g → Q' v H') → r v1 v2 H Q'
def P1 (T : Tx) (r : V → Hp → VK → Prop) (f : D → (D → Tag → Prop) → Prop) : Prop := ∀ (c : Dx T) (B H : Hp) (v1 : V) (d1 : D) (k : D → Tag → Prop) (Q' : VK), Ex B H → Tm c B H v1 d1 → f d1 k →
  (∀ d g v H', k d g → Res c B H H' v d g → Q' v H') → r v1 H Q'
def PN (T : Tx) (r : List V → Hp → VK → Prop) (f : List D → (D → Tag → Prop) → Prop) : Prop := ∀ (c : Dx T) (B H : Hp) (vs : List V) (ds : List D) (k : D → Tag → Prop) (Q' : VK), Ex B H → Tms c B H vs ds → f ds k →
  (∀ d g v H', k d g → Res c B H H' v d g → Q' v H') → r vs H Q'
def slot (ρ : Env) (i : Nat) (Q : D → Tag → Prop) : Prop := match ρ[i]? with
  | some (.sh d) => Q d .p
  | some (.own d) => Q d (.b i)
  | _ => False
def dVar (i : Nat) : RE := fun _ ρ Q => slot ρ i fun d g => Q d g ρ
def dC (d : D) : RE := fun _ ρ Q => Q d .p ρ
def dOp (f : D → D → (D → Tag → Prop) → Prop) (ta tb : RE) : RE := fun x ρ Q => ta x ρ fun d1 _ ρ1 => tb x ρ1 fun d2 _ ρ2 => f d1 d2 fun d g => Q d g ρ2
def dUn (f : D → (D → Tag → Prop) → Prop) (ta : RE) : RE := fun x ρ Q => ta x ρ fun d1 _ ρ1 => f d1 fun d g => Q d g ρ1
def dNil : RA := fun _ ρ Q => Q [] ρ
def dCons (ta : RE) (tr : RA) : RA := fun x ρ Q => ta x ρ fun d g ρ1 => tr x (leak d g ρ1) fun ds ρ2 => Q (d :: ds) ρ2
def dConsB (ta : RE) (tr : RA) : RA := fun x ρ Q => ta x ρ fun d _ ρ1 => tr x ρ1 fun ds ρ2 => Q (d :: ds) ρ2
def items : D → (List D → Prop) → Prop
  | .lst ds, k => k ds
  | .tup ds, k => k ds
  | _, _ => False
def dStar (ta : RE) (tr : RA) : RA := fun x ρ Q => ta x ρ fun d _ ρ1 => items d fun es => tr x ρ1 fun ds ρ2 => Q (es ++ ds) ρ2
def dTup (t : RA) : RE := fun x ρ Q => t x ρ fun ds ρ1 => ds.length ≤ sizeLine ∧ Q (.tup ds) .p ρ1
def dLst (t : RA) : RE := fun x ρ Q => t x ρ fun ds ρ1 => ds.length ≤ sizeLine ∧ Q (.lst ds) .f ρ1
def dCall (f : List D → (D → Tag → Prop) → Prop) (t : RA) : RE := fun x ρ Q => t x ρ fun ds ρ1 => f ds fun d g => Q d g ρ1
def dIf (tc : RT) (ta tb : RE) : RE := fun x ρ Q => tc x ρ fun b ρ1 => if b = true then ta x ρ1 Q else tb x ρ1 Q
def blOf : D → (Bool → Prop) → Prop
  | .bl b, k => k b
  | _, _ => False
def dAndV (ta tb : RE) : RE := fun x ρ Q => ta x ρ fun d _ ρ1 => blOf d fun b => if b = true then tb x ρ1 Q else Q (.bl false) .p ρ1
def dOrV (ta tb : RE) : RE := fun x ρ Q => ta x ρ fun d _ ρ1 => blOf d fun b => if b = true then Q (.bl true) .p ρ1 else tb x ρ1 Q
def dNotV (ta : RE) : RE := fun x ρ Q => ta x ρ fun d _ ρ1 => blOf d fun b => Q (.bl (!b)) .p ρ1
def dTest (ta : RE) : RT := fun x ρ Q => ta x ρ fun d _ ρ1 => blOf d fun b => Q b ρ1
def dAnd (ta tb : RT) : RT := fun x ρ Q => ta x ρ fun b ρ1 => if b = true then tb x ρ1 Q else Q false ρ1
def dOr (ta tb : RT) : RT := fun x ρ Q => ta x ρ fun b ρ1 => if b = true then Q true ρ1 else tb x ρ1 Q
def dNot (ta : RT) : RT := fun x ρ Q => ta x ρ fun b ρ1 => Q (!b) ρ1
def truth : D → (Bool → Prop) → Prop
  | .non, k => k false
  | .bl b, k => k b
  | .int i, k => k (i != 0)
  | .str x, k => x.length ≤ sizeLine ∧ k ((x.length : Int) != 0)
  | .lst ds, k => k (!ds.isEmpty)
  | .tup ds, k => k (!ds.isEmpty)
  | .dic ds, k => k (!ds.isEmpty)
  | _, _ => False
def dTruth (ta : RE) : RT := fun x ρ Q => ta x ρ fun d _ ρ1 => truth d fun b => Q b ρ1
def dChain (f g : D → D → (D → Tag → Prop) → Prop) (ta tb tc : RE) : RE := fun x ρ Q => ta x ρ fun d1 _ ρ1 => tb x ρ1 fun d2 _ ρ2 => f d1 d2 fun d _ => blOf d fun b =>
  if b = true then tc x ρ2 fun d3 _ ρ3 => g d2 d3 fun d t => Q d t ρ3 else Q (.bl false) .p ρ2

section
variable {T : Tx} {W : WX} {ta tb tc : RE}
theorem le_var {i : Nat} : ∀ σ H Q', liftE T W (dVar i) σ H Q' → tVar i σ H Q' := by
  rintro σ H Q' ⟨c, B, ρ, x, Q, R, X, h, q⟩
  unfold dVar slot at h
  split at h
  · rename_i d e
    have hi : i < σ.length := by rw [R.len]; exact (List.getElem?_eq_some_iff.mp e).1
    obtain ⟨o, ho⟩ : ∃ o, σ[i]? = some o := ⟨σ[i], by simp [hi]⟩
    have s := R.sl i o _ ho e
    cases s with
    | @sh v _ s => exact ⟨v, ho, q _ _ _ v B H h Ex.rfl' ExP.rfl' R (.p s)⟩
  · rename_i d e
    have hi : i < σ.length := by rw [R.len]; exact (List.getElem?_eq_some_iff.mp e).1
    obtain ⟨o, ho⟩ : ∃ o, σ[i]? = some o := ⟨σ[i], by simp [hi]⟩
    have s := R.sl i o _ ho e
    cases s with
    | @own a _ m s => exact ⟨.ref a, ho, q _ _ _ _ B H h Ex.rfl' ExP.rfl' R (.b ho e)⟩
  · exact h.elim
theorem le_c {v : V} {d : D} (hv : ∀ (c : Dx T) B, Den c B v d) : ∀ σ H Q', liftE T W (dC d) σ H Q' → tC v σ H Q' := by
  rintro σ H Q' ⟨c, B, ρ, x, Q, R, X, h, q⟩
  exact q _ _ _ v B H h Ex.rfl' ExP.rfl' R (.p (hv c B))
theorem res_to {c : Dx T} {σ : St} {H : Hp} {Q' : VK} {B : Hp} {ρ : Env} {Q : EQ} (R : Rel c σ B H ρ) {v : V} {d : D} {g : Tag} {H' : Hp} (q : ∀ d g ρ' v B' H', Q d g ρ' → Ex B B' → ExP c H H' → Rel c σ B' H' ρ' → Tg c σ B' H' ρ' v d g → Q' v H')
    (hq : Q d g ρ) (r : Res c B H H' v d g) : Q' v H' := by
  obtain ⟨B', e1, e2, r⟩ := r
  obtain ⟨R', t⟩ := r σ ρ R
  exact q d g ρ v B' H' hq e1 e2.p R' t
theorem le_op {r : R2} {f : D → D → (D → Tag → Prop) → Prop} (p : P2 T r f) : ∀ σ H Q', liftE T W (dOp f ta tb) σ H Q' → tOp r (liftE T W ta) (liftE T W tb) σ H Q' := by
  rintro σ H Q' ⟨c, B, ρ, x, Q, R, X, h, q⟩
  refine ⟨c, B, ρ, x, _, R, X, h, fun d1 g1 ρ1 v1 B1 H1 h1 e1 k1 R1 t1 => ⟨c, B1, ρ1, x, _, R1, X.up e1, h1, fun d2 g2 ρ2 v2 B2 H2 h2 e2 k2 R2 t2 => ?_⟩⟩
  refine p c B2 H2 v1 v2 d1 d2 _ Q' R2.ex ((t1.tm R1).mono e2 k2) (t2.tm R2) h2 fun d g v H' hq r => ?_
  exact res_to R2 (fun d g ρ' v B' H' hQ e k R' t => q d g ρ' v B' H' hQ ((e1.trans e2).trans e) ((k1.trans k2).trans k) R' t) hq r
theorem le_un {r : V → Hp → VK → Prop} {f : D → (D → Tag → Prop) → Prop} (p : P1 T r f) : ∀ σ H Q', liftE T W (dUn f ta) σ H Q' → tUn r (liftE T W ta) σ H Q' := by
  rintro σ H Q' ⟨c, B, ρ, x, Q, R, X, h, q⟩
  refine ⟨c, B, ρ, x, _, R, X, h, fun d1 g1 ρ1 v1 B1 H1 h1 e1 k1 R1 t1 => ?_⟩
  refine p c B1 H1 v1 d1 _ Q' R1.ex (t1.tm R1) h1 fun d g v H' hq r => ?_
  exact res_to R1 (fun d g ρ' v B' H' hQ e k R' t => q d g ρ' v B' H' hQ (e1.trans e) (k1.trans k) R' t) hq r
theorem la_nil : ∀ σ H Q', liftA T W dNil σ H Q' → tNil σ H Q' := by
  rintro σ H Q' ⟨c, B, ρ, x, Q, R, X, h, q⟩
  exact q _ _ _ B H h Ex.rfl' ExP.rfl' R .nil
theorem lb_nil : ∀ σ H Q', liftB T W dNil σ H Q' → tNil σ H Q' := by
  rintro σ H Q' ⟨c, B, ρ, x, Q, R, X, h, q⟩
  exact q _ _ _ B H h Ex.rfl' ExP.rfl' R .nil
theorem la_cons {tr : RA} : ∀ σ H Q', liftA T W (dCons ta tr) σ H Q' → tCons (liftE T W ta) (liftA T W tr) σ H Q' := by
  rintro σ H Q' ⟨c, B, ρ, x, Q, R, X, h, q⟩
  refine ⟨c, B, ρ, x, _, R, X, h, fun d1 g1 ρ1 v1 B1 H1 h1 e1 k1 R1 t1 => ?_⟩
  obtain ⟨B2, e2, R2, n1⟩ := leak_ok R1 t1
  refine ⟨c, B2, _, x, _, R2, (X.up e1).up e2, h1, fun ds ρ2 vs B3 H3 h3 e3 k3 R3 t3 => ?_⟩
  exact q _ _ _ B3 H3 h3 ((e1.trans e2).trans e3) (k1.trans k3) R3 (.cons (n1.mono e3) t3)
theorem lb_cons {tr : RA} : ∀ σ H Q', liftB T W (dConsB ta tr) σ H Q' → tCons (liftE T W ta) (liftB T W tr) σ H Q' := by
  rintro σ H Q' ⟨c, B, ρ, x, Q, R, X, h, q⟩
  refine ⟨c, B, ρ, x, _, R, X, h, fun d1 g1 ρ1 v1 B1 H1 h1 e1 k1 R1 t1 => ?_⟩
  refine ⟨c, B1, _, x, _, R1, X.up e1, h1, fun ds ρ2 vs B3 H3 h3 e3 k3 R3 t3 => ?_⟩
  exact q _ _ _ B3 H3 h3 (e1.trans e3) (k1.trans k3) R3 (.cons ((t1.tm R1).mono e3 k3) t3)
theorem le_tup {t : RA} : ∀ σ H Q', liftE T W (dTup t) σ H Q' → tTup (liftA T W t) σ H Q' := by
  rintro σ H Q' ⟨c, B, ρ, x, Q, R, X, h, q⟩
  refine ⟨c, B, ρ, x, _, R, X, h, fun ds ρ1 vs B1 H1 h1 e1 k1 R1 t1 => ⟨by rw [t1.length]; exact h1.1, fun p hp => ?_⟩⟩
  exact res_to R1 (fun d g ρ' v B' H' hQ e k R' t => q d g ρ' v B' H' hQ (e1.trans e) (k1.trans k) R' t) h1.2 (Res.newT R1.ex hp t1)
theorem le_lst {t : RA} : ∀ σ H Q', liftE T W (dLst t) σ H Q' → tLst (liftA T W t) σ H Q' := by
  rintro σ H Q' ⟨c, B, ρ, x, Q, R, X, h, q⟩
  refine ⟨c, B, ρ, x, _, R, X, h, fun ds ρ1 vs B1 H1 h1 e1 k1 R1 t1 => ⟨by rw [t1.length]; exact h1.1, fun p hp => ?_⟩⟩
  exact res_to R1 (fun d g ρ' v B' H' hQ e k R' t => q d g ρ' v B' H' hQ (e1.trans e) (k1.trans k) R' t) h1.2 (Res.newL R1.ex hp t1)
theorem le_callB {r : List V → Hp → VK → Prop} {f : List D → (D → Tag → Prop) → Prop} {t : RA} (p : PN T r f) : ∀ σ H Q', liftE T W (dCall f t) σ H Q' → tCB r (liftB T W t) σ H Q' := by
  rintro σ H Q' ⟨c, B, ρ, x, Q, R, X, h, q⟩
  refine ⟨c, B, ρ, x, _, R, X, h, fun ds ρ1 vs B1 H1 h1 e1 k1 R1 t1 => ?_⟩
  refine p c B1 H1 vs ds _ Q' R1.ex t1 h1 fun d g v H' hq r => ?_
  exact res_to R1 (fun d g ρ' v B' H' hQ e k R' t => q d g ρ' v B' H' hQ (e1.trans e) (k1.trans k) R' t) hq r
theorem le_if {t : RT} : ∀ σ H Q', liftE T W (dIf t ta tb) σ H Q' → tIf (liftT T W t) (liftE T W ta) (liftE T W tb) σ H Q' := by
  rintro σ H Q' ⟨c, B, ρ, x, Q, R, X, h, q⟩
  refine ⟨c, B, ρ, x, _, R, X, h, fun b ρ1 B1 H1 h1 e1 k1 R1 => ?_⟩
  have go : ∀ {t : RE}, t x ρ1 Q → liftE T W t σ H1 Q' := fun {t} h => ⟨c, B1, ρ1, x, Q, R1, X.up e1, h, fun d g ρ' v B' H' hQ e k R' t => q d g ρ' v B' H' hQ (e1.trans e) (k1.trans k) R' t⟩
  cases b with
  | true => exact go h1
  | false => exact go h1
theorem le_andV : ∀ σ H Q', liftE T W (dAndV ta tb) σ H Q' → tAndV (liftE T W ta) (liftE T W tb) σ H Q' := by
  rintro σ H Q' ⟨c, B, ρ, x, Q, R, X, h, q⟩
  refine ⟨c, B, ρ, x, _, R, X, h, fun d1 g1 ρ1 v1 B1 H1 h1 e1 k1 R1 t1 => ?_⟩
  cases d1 <;> first | exact h1.elim | skip
  case bl b =>
    have ev := (t1.tm R1).bl_; subst ev
    refine ⟨b, rfl, ?_⟩
    cases b with
    | true => exact ⟨c, B1, ρ1, x, Q, R1, X.up e1, h1, fun d g ρ' v B' H' hQ e k R' t => q d g ρ' v B' H' hQ (e1.trans e) (k1.trans k) R' t⟩
    | false => exact q _ _ _ _ B1 H1 h1 e1 k1 R1 (.p (.bl false))
theorem le_orV : ∀ σ H Q', liftE T W (dOrV ta tb) σ H Q' → tOrV (liftE T W ta) (liftE T W tb) σ H Q' := by
  rintro σ H Q' ⟨c, B, ρ, x, Q, R, X, h, q⟩
  refine ⟨c, B, ρ, x, _, R, X, h, fun d1 g1 ρ1 v1 B1 H1 h1 e1 k1 R1 t1 => ?_⟩
  cases d1 <;> first | exact h1.elim | skip
  case bl b =>
    have ev := (t1.tm R1).bl_; subst ev
    refine ⟨b, rfl, ?_⟩
    cases b with
    | false => exact ⟨c, B1, ρ1, x, Q, R1, X.up e1, h1, fun d g ρ' v B' H' hQ e k R' t => q d g ρ' v B' H' hQ (e1.trans e) (k1.trans k) R' t⟩
    | true => exact q _ _ _ _ B1 H1 h1 e1 k1 R1 (.p (.bl true))
theorem le_notV : ∀ σ H Q', liftE T W (dNotV ta) σ H Q' → tNotV (liftE T W ta) σ H Q' := by
  rintro σ H Q' ⟨c, B, ρ, x, Q, R, X, h, q⟩
  refine ⟨c, B, ρ, x, _, R, X, h, fun d1 g1 ρ1 v1 B1 H1 h1 e1 k1 R1 t1 => ?_⟩
  cases d1 <;> first | exact h1.elim | skip
  case bl b =>
    have ev := (t1.tm R1).bl_; subst ev
    exact ⟨b, rfl, q _ _ _ _ B1 H1 h1 e1 k1 R1 (.p (.bl _))⟩
theorem lt_test : ∀ σ H Q', liftT T W (dTest ta) σ H Q' → tB (liftE T W ta) σ H Q' := by
  rintro σ H Q' ⟨c, B, ρ, x, Q, R, X, h, q⟩
  refine ⟨c, B, ρ, x, _, R, X, h, fun d1 g1 ρ1 v1 B1 H1 h1 e1 k1 R1 t1 => ?_⟩
  cases d1 <;> first | exact h1.elim | skip
  case bl b =>
    have ev := (t1.tm R1).bl_; subst ev
    exact ⟨b, rfl, q _ _ B1 H1 h1 e1 k1 R1⟩
theorem lt_cmp {r : R2} {f : D → D → (D → Tag → Prop) → Prop} (p : P2 T r f) : ∀ σ H Q', liftT T W (dTest (dOp f ta tb)) σ H Q' → tTest (tOp r (liftE T W ta) (liftE T W tb)) σ H Q' := by
  rintro σ H Q' h
  have z := lt_test σ H Q' h
  exact le_op p σ H _ z
theorem lt_and {t u : RT} : ∀ σ H Q', liftT T W (dAnd t u) σ H Q' → tAnd (liftT T W t) (liftT T W u) σ H Q' := by
  rintro σ H Q' ⟨c, B, ρ, x, Q, R, X, h, q⟩
  refine ⟨c, B, ρ, x, _, R, X, h, fun b ρ1 B1 H1 h1 e1 k1 R1 => ?_⟩
  cases b with
  | true => exact ⟨c, B1, ρ1, x, Q, R1, X.up e1, h1, fun b ρ' B' H' hQ e k R' => q b ρ' B' H' hQ (e1.trans e) (k1.trans k) R'⟩
  | false => exact q _ _ B1 H1 h1 e1 k1 R1
theorem lt_or {t u : RT} : ∀ σ H Q', liftT T W (dOr t u) σ H Q' → tOr (liftT T W t) (liftT T W u) σ H Q' := by
  rintro σ H Q' ⟨c, B, ρ, x, Q, R, X, h, q⟩
  refine ⟨c, B, ρ, x, _, R, X, h, fun b ρ1 B1 H1 h1 e1 k1 R1 => ?_⟩
  cases b with
  | false => exact ⟨c, B1, ρ1, x, Q, R1, X.up e1, h1, fun b ρ' B' H' hQ e k R' => q b ρ' B' H' hQ (e1.trans e) (k1.trans k) R'⟩
  | true => exact q _ _ B1 H1 h1 e1 k1 R1
theorem lt_not {t : RT} : ∀ σ H Q', liftT T W (dNot t) σ H Q' → tNot (liftT T W t) σ H Q' := by
  rintro σ H Q' ⟨c, B, ρ, x, Q, R, X, h, q⟩
  exact ⟨c, B, ρ, x, _, R, X, h, fun b ρ1 B1 H1 h1 e1 k1 R1 => q _ _ B1 H1 h1 e1 k1 R1⟩
theorem isE {α β : Type} {xs : List α} {ds : List β} (h : xs.length = ds.length) : (!xs.isEmpty) = !ds.isEmpty := by
  cases xs <;> cases ds <;> first | rfl | (simp at h)
theorem lt_truth : ∀ σ H Q', liftT T W (dTruth ta) σ H Q' → liftE T W ta σ H fun x H' => ∃ k, TruV T.K x H' k ∧ Q' k H' := by
  rintro σ H Q' ⟨c, B, ρ, x, Q, R, X, h, q⟩
  refine ⟨c, B, ρ, x, _, R, X, h, fun d1 g1 ρ1 v1 B1 H1 h1 e1 k1 R1 t1 => ?_⟩
  have tm := t1.tm R1
  cases d1 <;> first | exact h1.elim | skip
  case non => have e := tm.non_; subst e; exact ⟨_, rfl, q _ _ B1 H1 h1 e1 k1 R1⟩
  case bl b => have e := tm.bl_; subst e; exact ⟨_, rfl, q _ _ B1 H1 h1 e1 k1 R1⟩
  case int b => have e := tm.int_; subst e; exact ⟨_, rfl, q _ _ B1 H1 h1 e1 k1 R1⟩
  case str b => have e := tm.str_; subst e; exact ⟨_, ⟨h1.1, rfl⟩, q _ _ B1 H1 h1.2 e1 k1 R1⟩
  case lst ds =>
    obtain ⟨a, xs, rfl, hs, r⟩ := tm.list R1.ex
    exact ⟨_, .inl ⟨xs, .inl (.inl hs), (isE r.length).symm⟩, q _ _ B1 H1 h1 e1 k1 R1⟩
  case tup ds =>
    obtain ⟨a, xs, rfl, hs, r⟩ := tm.tuple R1.ex
    exact ⟨_, .inr (.inl ⟨xs, hs, (isE r.length).symm⟩), q _ _ B1 H1 h1 e1 k1 R1⟩
  case dic ds =>
    obtain ⟨a, xs, rfl, hs, r⟩ := tm.dict R1.ex
    exact ⟨_, .inr (.inr ⟨xs, hs, (isE r.length).symm⟩), q _ _ B1 H1 h1 e1 k1 R1⟩
theorem le_chain {r r' : R2} {f g : D → D → (D → Tag → Prop) → Prop} (p : P2 T r f) (p' : P2 T r' g) : ∀ σ H Q', liftE T W (dChain f g ta tb tc) σ H Q' → tChain r r' (liftE T W ta) (liftE T W tb) (liftE T W tc) σ H Q' := by
  rintro σ H Q' ⟨c, B, ρ, x, Q, R, X, h, q⟩
  refine ⟨c, B, ρ, x, _, R, X, h, fun d1 g1 ρ1 v1 B1 H1 h1 e1 k1 R1 t1 => ⟨c, B1, ρ1, x, _, R1, X.up e1, h1, fun d2 g2 ρ2 v2 B2 H2 h2 e2 k2 R2 t2 => ?_⟩⟩
  refine p c B2 H2 v1 v2 d1 d2 _ _ R2.ex ((t1.tm R1).mono e2 k2) (t2.tm R2) h2 fun d t v H' hq r => ?_
  obtain ⟨B3, e3, e3', r3⟩ := r
  obtain ⟨R3, t3⟩ := r3 σ ρ2 R2
  cases d <;> first | exact hq.elim | skip
  case bl b =>
    have ev := (t3.tm R3).bl_; subst ev
    refine ⟨b, rfl, ?_⟩
    cases b with
    | true =>
      refine ⟨c, B3, ρ2, x, _, R3, (X.up e1).up (e2.trans e3), hq, fun d4 g4 ρ4 v4 B4 H4 h4 e4 k4 R4 t4 => ?_⟩
      refine p' c B4 H4 v2 v4 d2 d4 _ Q' R4.ex (((t2.tm R2).mono e3 e3'.p).mono e4 k4) (t4.tm R4) h4 fun d g v H' hq r => ?_
      exact res_to R4 (fun d g ρ' v B' H' hQ e k R' t => q d g ρ' v B' H' hQ ((e1.trans e2).trans ((e3.trans e4).trans e)) ((k1.trans k2).trans ((e3'.p.trans k4).trans k)) R' t) hq r
    | false => exact q _ _ _ _ B3 H' hq ((e1.trans e2).trans e3) ((k1.trans k2).trans e3'.p) R3 (.p (.bl false))
theorem lt_chain {r r' : R2} {f g : D → D → (D → Tag → Prop) → Prop} (p : P2 T r f) (p' : P2 T r' g) : ∀ σ H Q', liftT T W (dTest (dChain f g ta tb tc)) σ H Q' → tTest (tChain r r' (liftE T W ta) (liftE T W tb) (liftE T W tc)) σ H Q' := by
  rintro σ H Q' h
  exact le_chain p p' σ H _ (lt_test σ H Q' h)
end
end Dc
set_option maxHeartbeats 1000000
namespace Dc
open PySem L2

abbrev RG := D → Env → (Env → Prop) → Prop
abbrev RGs := List D → Env → (Env → Prop) → Prop
def Only (js : List Nat) (σ σ' : St) : Prop := σ'.length = σ.length ∧ ∀ i, i ∉ js → σ'[i]? = σ[i]?
theorem Only.refl {js : List Nat} {σ : St} : Only js σ σ := ⟨rfl, fun _ _ => rfl⟩
theorem Only.trans {js ks : List Nat} {σ σ1 σ2 : St} (a : Only js σ σ1) (b : Only ks σ1 σ2) : Only (js ++ ks) σ σ2 :=
  ⟨b.1.trans a.1, fun i h => (b.2 i fun q => h (List.mem_append_right _ q)).trans (a.2 i fun q => h (List.mem_append_left _ q))⟩
def liftG (T : Tx) (js : List Nat) (g : RG) : TG := fun v σ H Q' => ∃ c : Dx T, ∃ B ρ d Q, Rel c σ B H ρ ∧ Den c B v d ∧ g d ρ Q ∧
  ∀ ρ' σ' B' H', Q ρ' → Ex B B' → ExP c H H' → Rel c σ' B' H' ρ' → Only js σ σ' → Q' σ' H'
def liftGs (T : Tx) (js : List Nat) (g : RGs) : TGs := fun vs σ H Q' => ∃ c : Dx T, ∃ B ρ ds Q, Rel c σ B H ρ ∧ Dens c B vs ds ∧ g ds ρ Q ∧
  ∀ ρ' σ' B' H', Q ρ' → Ex B B' → ExP c H H' → Rel c σ' B' H' ρ' → Only js σ σ' → Q' σ' H'
def gN (i : Nat) : RG := fun d ρ Q => i < ρ.length ∧ Q (ρ.set i (.sh d))
def gsNil : RGs := fun ds ρ Q => match ds with
  | [] => Q ρ
  | _ => False
def gsCons (g : RG) (gs : RGs) : RGs := fun ds ρ Q => match ds with
  | d :: r => g d ρ fun ρ1 => gs r ρ1 Q
  | _ => False
def gT (n : Nat) (gs : RGs) : RG := fun d ρ Q => match d with
  | .tup ds => ds.length = n ∧ gs ds ρ Q
  | _ => False
def gL (n : Nat) (gs : RGs) : RG := fun d ρ Q => match d with
  | .lst ds => ds.length = n ∧ gs ds ρ Q
  | _ => False

section
variable {T : Tx} {c : Dx T} {σ : St} {B H : Hp} {ρ : Env}
theorem Rel.setSh (R : Rel c σ B H ρ) (i : Nat) {v : V} {d : D} (h : Den c B v d) : Rel c (σ.set i (some v)) B H (ρ.set i (.sh d)) where
  ex := R.ex
  pail := R.pail
  ent := R.ent
  fb := R.fb
  len := by simp [R.len]
  sl := fun j o s h1 h2 => by
    by_cases ji : i = j
    · subst ji
      have hi : i < σ.length := by have := (List.getElem?_eq_some_iff.mp h1).1; simpa using this
      rw [List.getElem?_set_self hi] at h1
      rw [List.getElem?_set_self (by rw [← R.len]; exact hi)] at h2
      cases h1; cases h2
      exact .sh h
    · rw [List.getElem?_set_ne ji] at h1 h2
      exact R.sl j o s h1 h2
  dj := fun j k a x y a1 a2 a3 a4 => by
    have go : ∀ {j : Nat} {x : D}, (ρ.set i (.sh d))[j]? = some (.own x) → j ≠ i ∧ ρ[j]? = some (.own x) := fun {j x} w => by
      by_cases ji : i = j
      · subst ji
        by_cases hi : i < ρ.length
        · rw [List.getElem?_set_self hi] at w; cases w
        · rw [List.getElem?_eq_none (by simpa using hi)] at w; cases w
      · rw [List.getElem?_set_ne ji] at w; exact ⟨Ne.symm ji, w⟩
    obtain ⟨n1, b1⟩ := go a2
    obtain ⟨n2, b2⟩ := go a4
    rw [List.getElem?_set_ne (Ne.symm n1)] at a1
    rw [List.getElem?_set_ne (Ne.symm n2)] at a3
    exact R.dj j k a x y a1 b1 a3 b2
theorem Rel.setOwn (R : Rel c σ B H ρ) (i : Nat) {a : Addr} {d : D} (m : Mine c B a) (h : OwnAt c B H a d) (n : ∀ (i : Nat) (e : D), σ[i]? = some (some (.ref a)) → ρ[i]? = some (.own e) → False) :
    Rel c (σ.set i (some (.ref a))) B H (ρ.set i (.own d)) where
  ex := R.ex
  pail := R.pail
  ent := R.ent
  fb := R.fb
  len := by simp [R.len]
  sl := fun j o s h1 h2 => by
    by_cases ji : i = j
    · subst ji
      have hi : i < σ.length := by have := (List.getElem?_eq_some_iff.mp h1).1; simpa using this
      rw [List.getElem?_set_self hi] at h1
      rw [List.getElem?_set_self (by rw [← R.len]; exact hi)] at h2
      cases h1; cases h2
      exact .own m h
    · rw [List.getElem?_set_ne ji] at h1 h2
      exact R.sl j o s h1 h2
  dj := fun j k b x y a1 a2 a3 a4 => by
    have go : ∀ {j : Nat} {x : D}, (σ.set i (some (.ref a)))[j]? = some (some (.ref b)) → (ρ.set i (.own d))[j]? = some (.own x) → (j = i ∧ a = b) ∨ (j ≠ i ∧ σ[j]? = some (some (.ref b)) ∧ ρ[j]? = some (.own x)) := fun {j x} w1 w2 => by
      by_cases ji : i = j
      · subst ji
        have hi : i < σ.length := by have := (List.getElem?_eq_some_iff.mp w1).1; simpa using this
        rw [List.getElem?_set_self hi] at w1
        injection w1 with w1; injection w1 with w1; injection w1 with w1
        exact .inl ⟨rfl, w1⟩
      · rw [List.getElem?_set_ne ji] at w1 w2; exact .inr ⟨Ne.symm ji, w1, w2⟩
    rcases go a1 a2 with ⟨e1, e2⟩ | ⟨e1, e2, e3⟩
    · rcases go a3 a4 with ⟨f1, f2⟩ | ⟨f1, f2, f3⟩
      · rw [e1, f1]
      · exact (n k y (by rw [e2]; exact f2) f3).elim
    · rcases go a3 a4 with ⟨f1, f2⟩ | ⟨f1, f2, f3⟩
      · exact (n j x (by rw [f2]; exact e2) e3).elim
      · exact R.dj j k b x y e2 e3 f2 f3
theorem only_set {i : Nat} {v : Option V} : Only [i] σ (σ.set i v) := ⟨by simp, fun j h => List.getElem?_set_ne (fun e => h (by simp [e]))⟩
theorem lg_name {i : Nat} : ∀ v σ H Q', liftG T [i] (gN i) v σ H Q' → gName i v σ H Q' := by
  rintro v σ H Q' ⟨c, B, ρ, d, Q, R, n, h, q⟩
  exact q _ _ B H h.2 Ex.rfl' ExP.rfl' (R.setSh i n) only_set
theorem lgs_nil : ∀ v σ H Q', liftGs T [] gsNil v σ H Q' → gNil v σ H Q' := by
  rintro v σ H Q' ⟨c, B, ρ, ds, Q, R, n, h, q⟩
  cases n with
  | nil => exact ⟨rfl, q _ _ B H h Ex.rfl' ExP.rfl' R Only.refl⟩
  | cons _ _ => exact h.elim
theorem lgs_cons {js ks : List Nat} {g : RG} {gs : RGs} : ∀ v σ H Q', liftGs T (js ++ ks) (gsCons g gs) v σ H Q' → gCons (liftG T js g) (liftGs T ks gs) v σ H Q' := by
  rintro v σ H Q' ⟨c, B, ρ, ds, Q, R, n, h, q⟩
  cases n with
  | nil => exact h.elim
  | cons n1 n2 =>
    refine ⟨_, _, rfl, c, B, ρ, _, _, R, n1, h, fun ρ1 σ1 B1 H1 h1 e1 k1 R1 o1 => ?_⟩
    exact ⟨c, B1, ρ1, _, Q, R1, n2.mono e1, h1, fun ρ' σ' B' H' hq e k R' o => q ρ' σ' B' H' hq (e1.trans e) (k1.trans k) R' (o1.trans o)⟩
theorem lg_tup {js : List Nat} {gs : RGs} {n : Nat} : ∀ v σ H Q', liftG T js (gT n gs) v σ H Q' → gTup T.K n (liftGs T js gs) v σ H Q' := by
  rintro v σ H Q' ⟨c, B, ρ, d, Q, R, m, h, q⟩
  cases m <;> first | exact h.elim | skip
  case tup a xs ds hs r => exact ⟨a, xs, rfl, R.ex.sqT hs, by rw [r.length]; exact h.1, c, B, ρ, ds, Q, R, r, h.2, q⟩
end
end Dc
namespace L2
theorem PG.imp {X : Cx} {e : PySem.Expr} {t t' : TG} (h : PG X e t) (k : ∀ v σ H Q, t' v σ H Q → t v σ H Q) : PG X e t' := ⟨fun pins s σ H v u Q I r q => h.run pins s σ H v u Q I r (k v σ H Q q)⟩
theorem PGs.imp {X : Cx} {e : List PySem.Expr} {t t' : TGs} (h : PGs X e t) (k : ∀ v σ H Q, t' v σ H Q → t v σ H Q) : PGs X e t' := ⟨fun pins s σ H v u Q I r q => h.run pins s σ H v u Q I r (k v σ H Q q)⟩
theorem PI.imp {X : Cx} {g e : PySem.Expr} {t t' : TI} (h : PI X g e t) (k : ∀ σ H R, t' σ H R → t σ H R) : PI X g e t' := ⟨fun pins s σ H R I q => h.run pins s σ H R I (k σ H R q)⟩
theorem PTs.imp {X : Cx} {e : List PySem.Expr} {t t' : TT} (h : PTs X e t) (k : ∀ σ H Q, t' σ H Q → t σ H Q) : PTs X e t' := ⟨fun pins s σ H Q I q => h.run pins s σ H Q I (k σ H Q q)⟩
end L2
namespace Dc
open PySem L2

def sNext : RS := fun k ρ => k.nx ρ
def sSeq (a b : RS) : RS := fun k ρ => a { k with nx := b k } ρ
def sBreak : RS := fun k ρ => k.bk ρ
def sCont : RS := fun k ρ => k.ct ρ
def sRet (t : RE) : RS := fun k ρ => t k.ex ρ k.rt
def sRetN : RS := fun k ρ => k.rt .non .p ρ
def sDrop (t : RE) : RS := fun k ρ => t k.ex ρ fun _ _ ρ1 => k.nx ρ1
def sIf (c : RT) (a b : RS) : RS := fun k ρ => c k.ex ρ fun x ρ1 => if x = true then a k ρ1 else b k ρ1
def put (i : Nat) (d : D) (g : Tag) (ρ : Env) : Env := match g with
  | .f => ρ.set i (.own d)
  | g => (leak d g ρ).set i (.sh d)
def sSet (i : Nat) (t : RE) : RS := fun k ρ => t k.ex ρ fun d g ρ1 => k.nx (put i d g ρ1)
def sAsg (t : RE) (g : RG) : RS := fun k ρ => t k.ex ρ fun d t ρ1 => g d (leak d t ρ1) k.nx
def sNever : RS := fun _ _ => False
section
variable {T : Tx} {W : WX} {a b : RS} {t : RE} {ct : RT}
theorem ls_next : ∀ D σ H, liftS T W sNext D σ H → tNext D σ H := by
  rintro D σ H ⟨c, B, ρ, k, R, X, h, n, _⟩
  exact n ρ σ B H h Ex.rfl' R
theorem ls_seq : ∀ D σ H, liftS T W (sSeq a b) D σ H → tSeq (liftS T W a) (liftS T W b) D σ H := by
  rintro D σ H ⟨c, B, ρ, k, R, X, h, n, r, bk, ct⟩
  refine ⟨c, B, ρ, { k with nx := b k }, R, X, h, fun ρ1 σ1 B1 H1 h1 e1 R1 => ?_, r, bk, ct⟩
  exact ⟨c, B1, ρ1, k, R1, X.up e1, h1, fun ρ' σ' B' H' q e R' => n ρ' σ' B' H' q (e1.trans e) R', fun d g ρ' v σ' B' H' q e R' t => r d g ρ' v σ' B' H' q (e1.trans e) R' t,
    fun ρ' σ' B' H' q e R' => bk ρ' σ' B' H' q (e1.trans e) R', fun ρ' σ' B' H' q e R' => ct ρ' σ' B' H' q (e1.trans e) R'⟩
theorem ls_ret : ∀ D σ H, liftS T W (sRet t) D σ H → tRet (liftE T W t) D σ H := by
  rintro D σ H ⟨c, B, ρ, k, R, X, h, n, r, bk, ct⟩
  exact ⟨c, B, ρ, _, _, R, X, h, fun d g ρ' v B' H' q e _ R' t => r d g ρ' v σ B' H' q e R' t⟩
theorem ls_drop : ∀ D σ H, liftS T W (sDrop t) D σ H → tDrop (liftE T W t) D σ H := by
  rintro D σ H ⟨c, B, ρ, k, R, X, h, n, r, bk, ct⟩
  exact ⟨c, B, ρ, _, _, R, X, h, fun d g ρ' v B' H' q e _ R' t => n ρ' σ B' H' q e R'⟩
theorem ls_if : ∀ D σ H, liftS T W (sIf ct a b) D σ H → tIfS (liftT T W ct) (liftS T W a) (liftS T W b) D σ H := by
  rintro D σ H ⟨c, B, ρ, k, R, X, h, n, r, bk, ct⟩
  refine ⟨c, B, ρ, _, _, R, X, h, fun x ρ1 B1 H1 h1 e1 _ R1 => ?_⟩
  have go : ∀ {s : RS}, s k ρ1 → liftS T W s D σ H1 := fun {s} h => ⟨c, B1, ρ1, k, R1, X.up e1, h, fun ρ' σ' B' H' q e R' => n ρ' σ' B' H' q (e1.trans e) R', fun d g ρ' v σ' B' H' q e R' t => r d g ρ' v σ' B' H' q (e1.trans e) R' t,
    fun ρ' σ' B' H' q e R' => bk ρ' σ' B' H' q (e1.trans e) R', fun ρ' σ' B' H' q e R' => ct ρ' σ' B' H' q (e1.trans e) R'⟩
  cases x with
  | true => exact go h1
  | false => exact go h1
theorem put_ok {c : Dx T} {σ : St} {B H : Hp} {ρ : Env} {v : V} {d : D} {g : Tag} (R : Rel c σ B H ρ) (i : Nat) (h : Tg c σ B H ρ v d g) : ∃ B', Ex B B' ∧ Rel c (σ.set i (some v)) B' H (put i d g ρ) := by
  cases h with
  | p h => exact ⟨B, Ex.rfl', R.setSh i h⟩
  | f m h n => exact ⟨B, Ex.rfl', R.setOwn i m h n⟩
  | @b a d j h1 h2 =>
    obtain ⟨B', e, R', n⟩ := leak_ok R (.b h1 h2)
    exact ⟨B', e, R'.setSh i n⟩
theorem ls_set {i : Nat} : ∀ D σ H, liftS T W (sSet i t) D σ H → tAsg (liftE T W t) (gName i) D σ H := by
  rintro D σ H ⟨c, B, ρ, k, R, X, h, n, r, bk, ct⟩
  refine ⟨c, B, ρ, _, _, R, X, h, fun d g ρ1 v B1 H1 q e1 _ R1 t => ?_⟩
  obtain ⟨B2, e2, R2⟩ := put_ok R1 i t
  exact n _ _ B2 H1 q (e1.trans e2) R2
theorem ls_asg {js : List Nat} {g : RG} : ∀ D σ H, liftS T W (sAsg t g) D σ H → tAsg (liftE T W t) (liftG T js g) D σ H := by
  rintro D σ H ⟨c, B, ρ, k, R, X, h, n, r, bk, ct⟩
  refine ⟨c, B, ρ, _, _, R, X, h, fun d g ρ1 v B1 H1 q e1 _ R1 t => ?_⟩
  obtain ⟨B2, e2, R2, n2⟩ := leak_ok R1 t
  exact ⟨c, B2, _, d, _, R2, n2, q, fun ρ' σ' B' H' q e k R' o => n ρ' σ' B' H' q ((e1.trans e2).trans e) R'⟩
end

abbrev RI := XQ → Env → (List D → Env → Prop) → Prop
def Serves {T : Tx} (c : Dx T) (J : It) (B : Hp) (ds : List D) : Prop := ∀ (B' H' : Hp), Ex B B' → Ex B' H' → (∀ i, i = ds.length → J.stop i H') ∧
  ∀ i d, ds[i]? = some d → J.go i H' ∧ ∀ x H'', J.yld i H' x H'' → ∃ B'', Ex B' B'' ∧ Ex H' H'' ∧ (∀ σ ρ, Rel c σ B' H' ρ → Rel c σ B'' H'' ρ) ∧ Den c B'' x d
theorem Serves.up {T : Tx} {c : Dx T} {J : It} {B B1 : Hp} {ds : List D} (s : Serves c J B ds) (e : Ex B B1) : Serves c J B1 ds := fun B' H' e1 e2 => s B' H' (e.trans e1) e2
def liftI (T : Tx) (W : WX) (t : RI) : TI := fun σ H R' => ∃ c : Dx T, ∃ B ρ x Q, Rel c σ B H ρ ∧ XW c W B x ∧ t x ρ Q ∧
  ∀ ds ρ' J B' H', Q ds ρ' → Ex B B' → ExP c H H' → Rel c σ B' H' ρ' → (∀ F, Serves (c.ent c.H0 F) J B' ds) → R' J H'
def inR (i : Int) : Prop := -(2 ^ 62) ≤ i ∧ i < 2 ^ 62
def ups (a : Int) (n : Nat) : List D := (List.range n).map fun i => D.int (a + (i : Nat))
def iRange1 (t : RA) : RI := fun x ρ Q => t x ρ fun ds ρ1 => match ds with
  | [.int n] => inR n ∧ Q (ups 0 n.toNat) ρ1
  | _ => False
def iRange2 (t : RA) : RI := fun x ρ Q => t x ρ fun ds ρ1 => match ds with
  | [.int a, .int b] => inR a ∧ inR b ∧ Q (ups a (b - a).toNat) ρ1
  | _ => False
def signs (x : Str) : List D := x.cps.toList.map fun c => D.str ⟨#[c]⟩
def numbered (ds : List D) : List D := (ds.zipIdx).map fun p => D.tup [.int (p.2 : Nat), p.1]
section
variable {T : Tx} {W : WX}
theorem serves_list {c : Dx T} {B : Hp} {a : Addr} {xs : List V} {ds : List D} (h : B a = some (.lst xs)) (r : Dens c B xs ds) : Serves c (Itl T.K a) B ds := by
  intro B' H' e1 e2
  have hs : SqL T.K H' a xs := .inl (.inl (e2 _ _ (e1 _ _ h)))
  refine ⟨fun i hi => ⟨xs, hs, by rw [r.length]; omega⟩, fun i d hd => ?_⟩
  obtain ⟨v, hv, n⟩ := r.get hd
  exact ⟨⟨xs, v, hs, hv⟩, fun x H'' ⟨eh, hx⟩ => ⟨B', Ex.rfl', by rw [eh]; exact Ex.rfl', fun σ ρ R => by rw [eh]; exact R, by
    have := hx xs hs
    rw [hv] at this; cases this
    exact n.mono e1⟩⟩
theorem serves_tup {c : Dx T} {B : Hp} {a : Addr} {xs : List V} {ds : List D} (h : SqT T.K B a xs) (r : Dens c B xs ds) : Serves c (Itt T.K a) B ds := by
  intro B' H' e1 e2
  have hs : SqT T.K H' a xs := e2.sqT (e1.sqT h)
  refine ⟨fun i hi => ⟨xs, hs, by rw [r.length]; omega⟩, fun i d hd => ?_⟩
  obtain ⟨v, hv, n⟩ := r.get hd
  exact ⟨⟨xs, v, hs, hv⟩, fun x H'' ⟨eh, hx⟩ => ⟨B', Ex.rfl', by rw [eh]; exact Ex.rfl', fun σ ρ R => by rw [eh]; exact R, by
    have := hx xs hs
    rw [hv] at this; cases this
    exact n.mono e1⟩⟩
theorem serves_range {c : Dx T} {B : Hp} {a : Int} {n : Nat} : Serves c (Itr a n) B (ups a n) := by
  intro B' H' e1 e2
  refine ⟨fun i hi => by simp [ups] at hi; show n ≤ i; omega, fun i d hd => ?_⟩
  simp only [ups, List.getElem?_map, List.getElem?_range] at hd
  by_cases hi : i < n
  · simp [hi] at hd
    subst hd
    exact ⟨hi, fun x H'' ⟨eh, hx⟩ => ⟨B', Ex.rfl', by rw [eh]; exact Ex.rfl', fun σ ρ R => by rw [eh]; exact R, by rw [hx]; exact .int _⟩⟩
  · simp [hi] at hd
theorem li_range1 {t : RA} : ∀ σ H R', liftI T W (iRange1 t) σ H R' → iRng1 (liftB T W t) σ H R' := by
  rintro σ H R' ⟨c, B, ρ, x, Q, R, X, h, q⟩
  refine ⟨c, B, ρ, x, _, R, X, h, fun ds ρ1 vs B1 H1 h1 e1 k1 R1 t1 => ?_⟩
  match ds, h1, t1 with
  | [.int n], h1, .cons t2 .nil =>
    have e := t2.int_; subst e
    exact ⟨n, rfl, h1.1.1, h1.1.2, q _ _ _ B1 H1 h1.2 e1 k1 R1 fun F => serves_range⟩
end

def dLoop (g : RG) (tb : RS) (k : Kd) : List D → Env → Prop
  | [], ρ => k.nx ρ
  | d :: ds, ρ => g d ρ fun ρ1 => tb { k with nx := dLoop g tb k ds, ct := dLoop g tb k ds, bk := k.nx } ρ1
def sFor (it : RI) (g : RG) (tb : RS) : RS := fun k ρ => it k.ex ρ fun ds ρ1 => dLoop g tb k ds ρ1
theorem drop_get {α : Type} {l : List α} {i : Nat} (h : i < l.length) : l.drop i = l[i] :: l.drop (i + 1) := by
  rw [List.drop_eq_getElem_cons h]
theorem ls_for {T : Tx} {W : WX} {it : RI} {g : RG} {js : List Nat} {tb : RS} : ∀ D σ H, liftS T W (sFor it g tb) D σ H → tFor (liftI T W it) (liftG T js g) (liftS T W tb) D σ H := by
  rintro D σ H ⟨c, B, ρ, k, R, X, h, n, r, bk, ct⟩
  refine ⟨c, B, ρ, _, _, R, X, h, fun ds ρ1 J B1 H1 h1 e1 k1 R1 S => ?_⟩
  have S := S c.fb
  refine ⟨fun i m σ' H' => m = ds.length - i ∧ i ≤ ds.length ∧ ∃ B' ρ', Ex B1 B' ∧ Rel c σ' B' H' ρ' ∧ dLoop g tb k (ds.drop i) ρ', ⟨ds.length, by simp, Nat.zero_le _, B1, ρ1, Ex.rfl', R1, h1⟩, ?_⟩
  rintro i m σ' H' ⟨rfl, hi, B', ρ', e', R', q⟩
  obtain ⟨stop, step⟩ := S B' H' e' R'.ex
  by_cases hlt : i < ds.length
  · rw [drop_get hlt] at q
    obtain ⟨go, yl⟩ := step i ds[i] (by simp [hlt])
    refine .inr ⟨go, fun σ2 H2 => i + 1 ≤ ds.length ∧ ∃ B2 ρ2, Ex B1 B2 ∧ Rel c σ2 B2 H2 ρ2 ∧ dLoop g tb k (ds.drop (i + 1)) ρ2, fun σ2 H2 ⟨a1, a2⟩ => ⟨ds.length - (i + 1), by omega, rfl, a1, a2⟩, fun x H2 y => ?_⟩
    obtain ⟨B2, e2, _, keep, nd⟩ := yl x H2 y
    refine ⟨c, B2, ρ', ds[i], _, keep _ _ R', nd, q, fun ρ3 σ3 B3 H3 q3 e3 _ R3 _ => ?_⟩
    have E3 : Ex B1 B3 := e'.trans (e2.trans e3)
    exact ⟨c, B3, ρ3, { k with nx := dLoop g tb k (ds.drop (i + 1)), ct := dLoop g tb k (ds.drop (i + 1)), bk := k.nx }, R3, X.up (e1.trans E3), q3, fun ρ4 σ4 B4 H4 q4 e4 R4 => ⟨hlt, B4, ρ4, E3.trans e4, R4, q4⟩,
      fun d g ρ4 v σ4 B4 H4 q4 e4 R4 t4 => r d g ρ4 v σ4 B4 H4 q4 ((e1.trans E3).trans e4) R4 t4,
      fun ρ4 σ4 B4 H4 q4 e4 R4 => n ρ4 σ4 B4 H4 q4 ((e1.trans E3).trans e4) R4, fun ρ4 σ4 B4 H4 q4 e4 R4 => ⟨hlt, B4, ρ4, E3.trans e4, R4, q4⟩⟩
  · have ei : i = ds.length := by omega
    rw [ei, List.drop_length] at q
    exact .inl ⟨stop i ei, n ρ' σ' B' H' q (e1.trans e') R'⟩
end Dc
set_option maxHeartbeats 1000000
namespace Dc
open PySem L2

def frz1 (i : Nat) (ρ : Env) : Env := match ρ[i]? with
  | some (.own d) => ρ.set i (.sh d)
  | _ => ρ
def frz : List Nat → Env → Env
  | [], ρ => ρ
  | i :: r, ρ => frz r (frz1 i ρ)
def wipeE (ρ : Env) : List Nat → Env
  | [] => ρ
  | v :: vs => (wipeE ρ vs).set v .no
section
variable {T : Tx} {c : Dx T} {σ : St} {B H : Hp} {ρ : Env}
theorem frz1_ok (R : Rel c σ B H ρ) (i : Nat) : ∃ B', Ex B B' ∧ Rel c σ B' H (frz1 i ρ) := by
  unfold frz1
  split
  · rename_i d e
    have hi : i < σ.length := by rw [R.len]; exact (List.getElem?_eq_some_iff.mp e).1
    obtain ⟨o, ho⟩ : ∃ o, σ[i]? = some o := ⟨σ[i], by simp [hi]⟩
    have s := R.sl i o _ ho e
    cases s with
    | @own a _ m s =>
      obtain ⟨B', e', R', _⟩ := leak_ok R (.b ho e)
      exact ⟨B', e', R'⟩
  · exact ⟨B, Ex.rfl', R⟩
theorem frz_ok : ∀ (l : List Nat) {B : Hp} {ρ : Env}, Rel c σ B H ρ → ∃ B', Ex B B' ∧ Rel c σ B' H (frz l ρ)
  | [], B, ρ, R => ⟨B, Ex.rfl', R⟩
  | i :: r, B, ρ, R => by
    obtain ⟨B1, e1, R1⟩ := frz1_ok R i
    obtain ⟨B2, e2, R2⟩ := frz_ok r R1
    exact ⟨B2, e1.trans e2, R2⟩
theorem frz1_own {i j : Nat} {d : D} (h : (frz1 i ρ)[j]? = some (.own d)) : ρ[j]? = some (.own d) ∧ j ≠ i := by
  unfold frz1 at h
  split at h
  · rename_i e he
    by_cases q : i = j
    · subst q
      rw [List.getElem?_set_self (List.getElem?_eq_some_iff.mp he).1] at h; cases h
    · rw [List.getElem?_set_ne q] at h; exact ⟨h, Ne.symm q⟩
  · rename_i ne
    refine ⟨h, fun q => ?_⟩
    subst q
    exact ne d h
theorem frz_own {j : Nat} {d : D} : ∀ (l : List Nat) {ρ : Env}, (frz l ρ)[j]? = some (.own d) → ρ[j]? = some (.own d) ∧ j ∉ l
  | [], ρ, h => ⟨h, by simp⟩
  | i :: r, ρ, h => by
    obtain ⟨h1, n1⟩ := frz_own r h
    obtain ⟨h2, n2⟩ := frz1_own h1
    exact ⟨h2, by simp [n1, n2]⟩
theorem Rel.setNo (R : Rel c σ B H ρ) (i : Nat) (o : Option V) : Rel c (σ.set i o) B H (ρ.set i .no) where
  ex := R.ex
  pail := R.pail
  ent := R.ent
  fb := R.fb
  len := by simp [R.len]
  sl := fun j o s h1 h2 => by
    by_cases ji : i = j
    · subst ji
      have hi : i < ρ.length := by have := (List.getElem?_eq_some_iff.mp h2).1; simpa using this
      rw [List.getElem?_set_self hi] at h2
      cases h2
      exact .no
    · rw [List.getElem?_set_ne ji] at h1 h2
      exact R.sl j o s h1 h2
  dj := fun j k a x y a1 a2 a3 a4 => by
    have go : ∀ {j : Nat} {x : D}, (ρ.set i .no)[j]? = some (.own x) → j ≠ i ∧ ρ[j]? = some (.own x) := fun {j x} w => by
      by_cases ji : i = j
      · subst ji
        by_cases hi : i < ρ.length
        · rw [List.getElem?_set_self hi] at w; cases w
        · rw [List.getElem?_eq_none (by simpa using hi)] at w; cases w
      · rw [List.getElem?_set_ne ji] at w; exact ⟨Ne.symm ji, w⟩
    obtain ⟨n1, b1⟩ := go a2
    obtain ⟨n2, b2⟩ := go a4
    rw [List.getElem?_set_ne (Ne.symm n1)] at a1
    rw [List.getElem?_set_ne (Ne.symm n2)] at a3
    exact R.dj j k a x y a1 b1 a3 b2
theorem Rel.wiped (R : Rel c σ B H ρ) : ∀ vs, Rel c (wipe σ vs) B H (wipeE ρ vs)
  | [] => R
  | v :: vs => (R.wiped vs).setNo v none
theorem wipe_at {σ : St} {i : Nat} : ∀ {vs : List Nat}, i ∉ vs → (wipe σ vs)[i]? = σ[i]?
  | [], _ => rfl
  | v :: vs, h => by
    have h2 : v ≠ i := fun e => h (by simp [e])
    unfold wipe
    rw [List.getElem?_set_ne h2]
    exact wipe_at fun q => h (List.mem_cons_of_mem _ q)
theorem wipeE_at {ρ : Env} {i : Nat} : ∀ {vs : List Nat}, i ∉ vs → (wipeE ρ vs)[i]? = ρ[i]?
  | [], _ => rfl
  | v :: vs, h => by
    have h2 : v ≠ i := fun e => h (by simp [e])
    unfold wipeE
    rw [List.getElem?_set_ne h2]
    exact wipeE_at fun q => h (List.mem_cons_of_mem _ q)
theorem wipe_in {σ : St} {i : Nat} : ∀ {vs : List Nat}, i ∈ vs → (wipe σ vs)[i]? = if i < σ.length then some none else none
  | v :: vs, h => by
    unfold wipe
    by_cases e : v = i
    · subst e
      by_cases hl : v < σ.length
      · rw [List.getElem?_set_self (by rw [wipe_length]; exact hl), if_pos hl]
      · rw [List.getElem?_eq_none (by rw [List.length_set, wipe_length]; omega), if_neg hl]
    · rw [List.getElem?_set_ne e]
      exact wipe_in ((List.mem_cons.mp h).resolve_left fun q => e q.symm)
theorem wipe_only {js vs : List Nat} {σ1 : St} (o : Only js (wipe σ vs) σ1) (h : ∀ j ∈ js, j ∈ vs) : wipe σ1 vs = wipe σ vs := by
  apply List.ext_getElem?
  intro i
  by_cases hi : i ∈ vs
  · rw [wipe_in hi, wipe_in hi, o.1, wipe_length]
  · rw [wipe_at hi, o.2 i fun q => hi (h i q)]
def ward (c : Dx T) (p : Addr) : Dx T := c.ent c.H0 fun a => c.fb a ∨ a = p
theorem Rel.ward (R : Rel c σ B H ρ) {p : Addr} {o : HO} (hp : H p = none) (lo : lsd o := by first | exact lsd.lst | exact lsd.dK | exact lsd.own | exact lsd.xd | exact lsd.ins) : Rel (ward c p) σ B (upd H p o) ρ := by
  have R1 := R.newH (o := o) hp lo.nt
  have m := R.mine hp
  have up : ∀ {v d}, Den c B v d → Den (Dc.ward c p) B v d := fun h => Den.ent _ _ h
  refine ⟨R1.ex, R1.pail, R1.ent, fun a h => ?_, R1.len, fun i u s h1 h2 => ?_, R1.dj⟩
  · rcases h with h | h
    · exact R1.fb a h
    · subst h; exact ⟨⟨_, lo, upd_same⟩, m.b, m.p⟩
  · have z := R1.sl i u s h1 h2
    cases z with
    | no => exact .no
    | sh z => exact .sh (Den.ent _ _ z)
    | @own a d mm z =>
      refine .own ⟨mm.b, mm.p, mm.h, fun q => ?_⟩ ?_
      · rcases q with q | q
        · exact mm.f q
        · exact Mine.ne (R.ownB h1 h2).2 hp q
      · cases z with
        | lst z r => exact .lst z (Dens.ent _ _ r)
        | dic z r => exact .dic z (DenK.ent _ _ r)
end
theorem Rel.writeFb {T : Tx} {c : Dx T} {σ : St} {B H : Hp} {ρ : Env} (R : Rel c σ B H ρ) {p : Addr} {o : HO} (hp : c.fb p) (h0 : c.H0 p = none) (lo : lsd o := by first | exact lsd.lst | exact lsd.dK | exact lsd.own | exact lsd.xd | exact lsd.ins) : Rel c σ B (upd H p o) ρ := by
  obtain ⟨⟨u0, l0, hu0⟩, bp, np⟩ := R.fb p hp
  refine ⟨fun b u hb => ?_, R.pail.put hu0 np lo.nt l0, fun a u hn hb => ?_, fun a ha => ?_, R.len, fun i u s h1 h2 => ?_, R.dj⟩
  · rw [upd_ne (ne_of_none hb bp)]; exact R.ex b u hb
  · rw [upd_ne (ne_of_none hb h0)]; exact R.ent a u hn hb
  · obtain ⟨⟨u, hl, hu⟩, h2, h3⟩ := R.fb a ha
    refine ⟨?_, h2, h3⟩
    by_cases e : a = p
    · exact ⟨o, lo, by rw [e, upd_same]⟩
    · exact ⟨u, hl, by rw [upd_ne e]; exact hu⟩
  · have z := R.sl i u s h1 h2
    cases z with
    | no => exact .no
    | sh z => exact .sh z
    | own m z => exact .own m (z.mono Ex.rfl' fun u hu => by rw [upd_ne (fun e => m.f (by rw [e]; exact hp))]; exact hu)
mutual
theorem Den.unent {T : Tx} {c : Dx T} {B : Hp} {F : Addr → Prop} : ∀ {v : V} {d : D}, Den (c.ent c.H0 F) B v d → Den c B v d
  | _, _, .non => .non
  | _, _, .bl b => .bl b
  | _, _, .int i => .int i
  | _, _, .str x => .str x
  | _, _, .tup h r => .tup h (Dens.unent r)
  | _, _, .lst h n r => .lst h n (Dens.unent r)
  | _, _, .dic h n r => .dic h n (DenK.unent r)
  | _, _, .obj h r => .obj h (Dens.unent r)
  | _, _, .ptr h => .ptr h
  | _, _, .adr => .adr
  | _, _, .clo h => .clo h
  | _, _, .scr h => .scr h
  | _, _, .exc h h1 r => .exc h h1 (Den.unent r)
  | _, _, .tpz h h1 h2 r => .tpz h h1 h2 (Dens.unent r)
theorem Dens.unent {T : Tx} {c : Dx T} {B : Hp} {F : Addr → Prop} : ∀ {vs : List V} {ds : List D}, Dens (c.ent c.H0 F) B vs ds → Dens c B vs ds
  | _, _, .nil => .nil
  | _, _, .cons h r => .cons (Den.unent h) (Dens.unent r)
theorem DenK.unent {T : Tx} {c : Dx T} {B : Hp} {F : Addr → Prop} : ∀ {vs : List (Key × V)} {ds : List (Key × D)}, DenK (c.ent c.H0 F) B vs ds → DenK c B vs ds
  | _, _, .nil => .nil
  | _, _, .cons h r => .cons (Den.unent h) (DenK.unent r)
end

def lcL (own : List Nat) (ρw : Env) (g : RG) (tt : RT) (te : RE) : List D → List D → (List D → Prop) → Prop
  | [], acc, k => k acc
  | d :: ds, acc, k => g d ρw fun ρ1 => tt noX ρ1 fun b ρ2 =>
    if b = true then te noX ρ2 fun e ge ρ3 => wipeE (leak e ge ρ3) own = ρw ∧ lcL own ρw g tt te ds (acc ++ [e]) k else wipeE ρ2 own = ρw ∧ lcL own ρw g tt te ds acc k
def dLc (it : RI) (fz own : List Nat) (g : RG) (tt : RT) (te : RE) : RE := fun x ρ Q => it x ρ fun ds ρ1 => ds.length ≤ sizeLine ∧
  lcL own (wipeE (frz (own ++ fz) ρ1) own) g tt te ds [] fun acc => Q (.lst acc) .f (frz (own ++ fz) ρ1)
def dYes : RT := fun _ ρ Q => Q true ρ
abbrev W0 : WX := fun _ _ _ _ => False
theorem lt_yes {T : Tx} {W : WX} : ∀ σ H Q', liftT T W dYes σ H Q' → tYes σ H Q' := by
  rintro σ H Q' ⟨c, B, ρ, x, Q, R, X, h, q⟩
  exact q _ _ B H h Ex.rfl' ExP.rfl' R
theorem le_lc {T : Tx} {W : WX} {it : RI} {fz own js : List Nat} {g : RG} {tt : RT} {te : RE} (hj : ∀ j ∈ js, j ∈ own) :
    ∀ σ H Q', liftE T W (dLc it fz own g tt te) σ H Q' → tLc (liftI T W it) (liftG T js g) (liftT T W0 tt) (liftE T W0 te) own σ H Q' := by
  rintro σ H Q' ⟨c, B, ρ, x, Q, R, X, h, q⟩
  refine ⟨c, B, ρ, x, _, R, X, h, fun ds ρ1 J B1 H1 h1 e1 k1 R1 S => fun p hp => ?_⟩
  obtain ⟨hz, h1⟩ := h1
  obtain ⟨B2, e2, R2⟩ := frz_ok (own ++ fz) R1
  have S2 := (S fun a => c.fb a ∨ a = p).up e2
  have m2 := R2.mine hp
  have Rw : Rel (ward c p) (wipe σ own) B2 (upd H1 p (.lst [])) (wipeE (frz (own ++ fz) ρ1) own) := (R2.wiped own).ward hp
  refine ⟨fun i m H' => m = ds.length - i ∧ i ≤ ds.length ∧ ExP c H1 H' ∧ ∃ B' acc vs, Ex B2 B' ∧ Rel (ward c p) (wipe σ own) B' H' (wipeE (frz (own ++ fz) ρ1) own) ∧ H' p = some (.lst vs) ∧ Dens (ward c p) B' vs acc ∧ acc.length ≤ i ∧
      lcL own (wipeE (frz (own ++ fz) ρ1) own) g tt te (ds.drop i) acc fun acc => Q (.lst acc) .f (frz (own ++ fz) ρ1),
    ⟨ds.length, by simp, Nat.zero_le _, Ex.p (Ex.new hp), B2, [], [], Ex.rfl', Rw, upd_same, .nil, Nat.le_refl _, h1⟩, ?_⟩
  rintro i m H' ⟨rfl, hi, kp, B', acc, vs, e', R', hd, na, la, hq⟩
  obtain ⟨stop, step⟩ := S2 B' H' e' R'.ex
  by_cases hlt : i < ds.length
  · rw [drop_get hlt] at hq
    obtain ⟨go, yl⟩ := step i ds[i] (by simp [hlt])
    refine .inr ⟨go, fun H2 => ExP c H1 H2 ∧ ∃ B3 acc vs, Ex B2 B3 ∧ Rel (ward c p) (wipe σ own) B3 H2 (wipeE (frz (own ++ fz) ρ1) own) ∧ H2 p = some (.lst vs) ∧ Dens (ward c p) B3 vs acc ∧ acc.length ≤ i + 1 ∧
      lcL own (wipeE (frz (own ++ fz) ρ1) own) g tt te (ds.drop (i + 1)) acc fun acc => Q (.lst acc) .f (frz (own ++ fz) ρ1),
      fun H2 ⟨a1, a2⟩ => ⟨ds.length - (i + 1), by omega, rfl, hlt, a1, a2⟩, fun x2 H2 y => ?_⟩
    obtain ⟨B3, e3, e3', keep, nd⟩ := yl x2 H2 y
    have R3 := keep _ _ R'
    refine ⟨ward c p, B3, _, ds[i], _, R3, nd, hq, fun ρ4 σ4 B4 H4 q4 e4 k4 R4 o4 => ?_⟩
    have hw : wipe σ4 own = wipe σ own := wipe_only o4 hj
    refine ⟨hw, ward c p, B4, ρ4, noX, _, R4, XW.no, q4, fun b ρ5 B5 H5 q5 e5 k5 R5 => ?_⟩
    have np : ¬ c.wild p := m2.p
    cases b with
    | false =>
      obtain ⟨w5, l5⟩ := q5
      refine ⟨kp.trans (Ex.p e3' |>.trans (k4.trans k5)), B5, acc, vs, e'.trans (e3.trans (e4.trans e5)), ?_, k5 _ _ np (k4 _ _ np (e3' _ _ hd)), na.mono (e3.trans (e4.trans e5)), Nat.le_succ_of_le la, l5⟩
      have z := R5.wiped own
      rw [w5, hw] at z; exact z
    | true =>
      refine ⟨ward c p, B5, ρ5, noX, _, R5, XW.no, q5, fun d6 g6 ρ6 v6 B6 H6 q6 e6 k6 R6 t6 => ?_⟩
      obtain ⟨w6, l6⟩ := q6
      obtain ⟨B7, e7, R7, n7⟩ := leak_ok R6 t6
      have h6 : H6 p = some (.lst vs) := k6 _ _ np (k5 _ _ np (k4 _ _ np (e3' _ _ hd)))
      have E7 : Ex B' B7 := e3.trans (e4.trans (e5.trans (e6.trans e7)))
      have bp : B7 p = none := (R7.fb p (.inr rfl)).2.1
      refine ⟨vs, h6, by rw [na.length]; omega, ?_, B7, acc ++ [d6], vs ++ [v6], e'.trans E7, ?_, upd_same, (na.mono E7).append (.cons n7 .nil), by simp; omega, l6⟩
      · intro a o ha hb
        have ne : a ≠ p := ne_of_none hb hp
        rw [upd_ne ne]
        exact k6 _ _ ha (k5 _ _ ha (k4 _ _ ha (e3' _ _ (kp _ _ ha hb))))
      · have z := R7.wiped own
        rw [w6, hw] at z
        exact z.writeFb (.inr rfl) m2.h
  · have ei : i = ds.length := by omega
    rw [ei, List.drop_length] at hq
    refine .inl ⟨stop i ei, ?_⟩
    have Rf : Rel c σ B' H' (frz (own ++ fz) ρ1) := by
      refine R2.grow e' R'.ex kp R'.pail (fun a d j h1 h2 => ?_) (fun a ha => (R'.fb a (.inl ha)).2.1)
      have nj : j ∉ own := fun z => (frz_own _ h2).2 (List.mem_append_left _ z)
      exact (R'.ownB (by rw [wipe_at nj]; exact h1) (by rw [wipeE_at nj]; exact h2)).1.b
    refine q _ _ _ (.ref p) B' H' hq (e1.trans (e2.trans e')) (k1.trans kp) Rf (.f ⟨(R'.fb p (.inr rfl)).2.1, m2.p, m2.h, m2.f⟩ (.lst hd (Dens.unent na)) fun j e h1 h2 => ?_)
    have nj : j ∉ own := fun z => (frz_own _ h2).2 (List.mem_append_left _ z)
    exact (R'.ownB (by rw [wipe_at nj]; exact h1) (by rw [wipeE_at nj]; exact h2)).1.f (.inr rfl)
end Dc
set_option maxHeartbeats 1000000
namespace Dc
open PySem L2

mutual
theorem Den.to {T : Tx} {c c' : Dx T} {B : Hp} (e : c'.pa = c.pa) : ∀ {v : V} {d : D}, Den c B v d → Den c' B v d
  | _, _, .non => .non
  | _, _, .bl b => .bl b
  | _, _, .int i => .int i
  | _, _, .str x => .str x
  | _, _, .tup h r => .tup h (Dens.to e r)
  | _, _, .lst h n r => .lst h (by unfold Dx.wild at n ⊢; rw [e]; exact n) (Dens.to e r)
  | _, _, .dic h n r => .dic h (by unfold Dx.wild at n ⊢; rw [e]; exact n) (DenK.to e r)
  | _, _, .obj h r => .obj h (Dens.to e r)
  | _, _, .ptr h => .ptr (e.trans h)
  | _, _, .adr => .adr
  | _, _, .clo h => .clo h
  | _, _, .scr h => .scr h
  | _, _, .exc h h1 r => .exc h h1 (Den.to e r)
  | _, _, .tpz h h1 h2 r => .tpz h h1 h2 (Dens.to e r)
theorem Dens.to {T : Tx} {c c' : Dx T} {B : Hp} (e : c'.pa = c.pa) : ∀ {vs : List V} {ds : List D}, Dens c B vs ds → Dens c' B vs ds
  | _, _, .nil => .nil
  | _, _, .cons h r => .cons (Den.to e h) (Dens.to e r)
theorem DenK.to {T : Tx} {c c' : Dx T} {B : Hp} (e : c'.pa = c.pa) : ∀ {vs : List (Key × V)} {ds : List (Key × D)}, DenK c B vs ds → DenK c' B vs ds
  | _, _, .nil => .nil
  | _, _, .cons h r => .cons (Den.to e h) (DenK.to e r)
end
theorem OwnAt.to {T : Tx} {c c' : Dx T} {B H : Hp} {a : Addr} {d : D} (e : c'.pa = c.pa) (h : OwnAt c B H a d) : OwnAt c' B H a d := by
  cases h with
  | lst h r => exact .lst h (r.to e)
  | dic h r => exact .dic h (r.to e)
theorem XDen.to {T : Tx} {c c' : Dx T} {B : Hp} {cls : Value} {dd : Option Addr} {d : D} (e : c'.pa = c.pa) (h : XDen c B cls dd d) : XDen c' B cls dd d := by
  cases h with
  | bare => exact .bare
  | one h n => exact .one h (n.to e)

structure Hold {T : Tx} (c : Dx T) (B H : Hp) : Prop where
  ex : Ex B H
  pail : Pail c B H
  fb : ∀ a, c.fb a → (∃ o, lsd o ∧ H a = some o) ∧ B a = none ∧ ¬ c.wild a
theorem Rel.hold {T : Tx} {c : Dx T} {σ : St} {B H : Hp} {ρ : Env} (R : Rel c σ B H ρ) : Hold c B H := ⟨R.ex, R.pail, R.fb⟩
inductive RetOk {T : Tx} (c : Dx T) (B H : Hp) : V → D → Bool → Prop
  | p {v : V} {d : D} : Den c B v d → RetOk c B H v d false
  | f {a : Addr} {d : D} : Mine c B a → OwnAt c B H a d → RetOk c B H (.ref a) d true
abbrev Sps := List D → (D → Bool → Prop) → (D → Prop) → Prop
def spD (T : Tx) (n : Nat) (sp : Sps) : Sp := fun vs H Q E => ∃ (c : Dx T) (B : Hp) (ds : List D) (Qd : D → Bool → Prop) (xd : D → Prop), c.H0 = H ∧ Hold c B H ∧ Dens c B vs ds ∧ ds.length = n ∧ sp ds Qd xd ∧
  (∀ d o v B' H', Qd d o → Ex B B' → ExP c H H' → Hold c B' H' → RetOk c B' H' v d o → Q v H') ∧
  (∀ e cls dd B' H', xd e → Ex B B' → ExP c H H' → Hold c B' H' → XDen c B' cls dd e → E cls dd H')
theorem spD.len {T : Tx} {n : Nat} {sp : Sps} {vs : List V} {H : Hp} {Q : VK} {E : XK} (h : spD T n sp vs H Q E) : vs.length = n := by
  obtain ⟨c, B, ds, Qd, xd, _, _, r, hl, _⟩ := h
  rw [r.length, hl]
theorem spD.imp {T : Tx} {n : Nat} {sp sp' : Sps} (k : ∀ ds Qd xd, ds.length = n → sp' ds Qd xd → sp ds Qd xd) {vs : List V} {H : Hp} {Q : VK} {E : XK} (h : spD T n sp' vs H Q E) : spD T n sp vs H Q E := by
  obtain ⟨c, B, ds, Qd, xd, a, b, r, hl, h, q⟩ := h
  exact ⟨c, B, ds, Qd, xd, a, b, r, hl, k ds Qd xd hl h, q⟩

structure FnG (P : Program) (w : World) (K : PySem.W.Frag) (mg : Str → Option Value) (base : Heap) (k : Nat) (f : Addr) (fd : FuncData) (ps : List Str) (sp : Sp) : Prop where
  len : ∀ vs H Q E, sp vs H Q E → vs.length = ps.length
  run : ∀ (A : Around) (outer : List PySem.Env) (s : Shared) (H : Hp) (args : Args) (us : List Value) (vs : List V) (Q : VK) (E : XK), Room k A → A.guards = some [] → Env0 P w K mg base A outer s H → BindsTo s fd args (ps.zip us) → Vals vs us → sp vs H Q E →
    codeAny (model P w) A (.call (.ref f) args) (CR (L2.CX P w) outer P w H s Q E) s
section
variable {P : Program} {w : World} {K : PySem.W.Frag} {mg : Str → Option Value} {base : Heap} {j k : Nat} {f : Addr} {fd : FuncData} {ps : List Str} {sp sp' : Sp}
theorem FnG.mono (F : FnG P w K mg base j f fd ps sp) (h : j ≤ k) : FnG P w K mg base k f fd ps sp := ⟨F.len, fun A outer s H args us vs Q E hr => F.run A outer s H args us vs Q E (hr.mono h)⟩
theorem FnG.imp (F : FnG P w K mg base k f fd ps sp) (h : ∀ vs H Q E, sp' vs H Q E → sp vs H Q E) : FnG P w K mg base k f fd ps sp' :=
  ⟨fun vs H Q E q => F.len vs H Q E (h _ _ _ _ q), fun A outer s H args us vs Q E hr hg e b r q => F.run A outer s H args us vs Q E hr hg e b r (h _ _ _ _ q)⟩
theorem fnG_of {x qual : Str} {st : Stmt} {N : List Str} (F : Fun K x qual st f fd) (S : FnScope N ps (defScope st)) (len : ∀ vs H Q E, sp vs H Q E → vs.length = ps.length)
    (hbody : ∀ (cdv : Value) (A : Around) (outer : List PySem.Env) (s : Shared) (H : Hp) (vs : List V) (Q : VK) (E : XK), Room k (A.deeper (PyProof.Rows.envOfC qual (defScope st) s.heap.objs.size f cdv)) → (A.deeper (PyProof.Rows.envOfC qual (defScope st) s.heap.objs.size f cdv)).guards = some [] → sp vs H Q E →
      ∃ t, PSs (cxOf (L2.CX P w) P w K mg base N qual (defScope st) f cdv A outer s H E) (defBody st) t ∧ t { nx := fun _ H' => Q .non H', rt := Q } (L2.start N vs) H) : FnG P w K mg base (k + 1) f fd ps sp := by
  obtain ⟨oc, od, kV, doc, pm, an, cdv, ct, osl, rfl, lk, hcd⟩ := F.ex
  refine ⟨len, fun A outer s H args us vs Q E hr hg e0 hb r h => ?_⟩
  exact LamX.run_ofS lk hcd S hr e0 hb r (len _ _ _ _ h) fun hr' => hbody cdv A outer s H vs Q E hr' hg h
end

def startE (N : List Str) (ds : List D) : Env := ds.map Sl.sh ++ List.replicate (N.length - ds.length) Sl.no
def frOf : Tag → Bool
  | .p => false
  | _ => true
def kdOf (Qd : D → Bool → Prop) (xd : D → Prop) : Kd := { nx := fun _ => Qd .non false, rt := fun d g _ => Qd d (frOf g), ex := fun e _ => xd e }
theorem rel_start {T : Tx} {c : Dx T} {B H : Hp} {vs : List V} {ds : List D} {N : List Str} (h : Hold c B H) (h0 : c.H0 = H) (r : Dens c B vs ds) : Rel c (L2.start N vs) B H (startE N ds) := by
  have hl : vs.length = ds.length := r.length
  have noown : ∀ {i : Nat} {d : D}, (startE N ds)[i]? = some (.own d) → False := fun {i d} q => by
    unfold startE at q
    by_cases hi : i < ds.length
    · rw [List.getElem?_append_left (by simpa using hi), List.getElem?_map] at q
      cases e : ds[i]? with
      | none => rw [e] at q; cases q
      | some z => rw [e] at q; cases q
    · rw [List.getElem?_append_right (by simpa using hi), List.getElem?_replicate] at q
      split at q <;> cases q
  refine ⟨h.ex, h.pail, by rw [h0]; exact ExP.rfl', h.fb, by simp [L2.start, startE, hl], fun i o s h1 h2 => ?_, fun i j a d e _ h2 => (noown h2).elim⟩
  unfold startE at h2
  unfold L2.start at h1
  by_cases hi : i < ds.length
  · rw [List.getElem?_append_left (by simpa using hi), List.getElem?_map] at h2
    rw [List.getElem?_append_left (by simpa [hl] using hi), List.getElem?_map] at h1
    cases e : ds[i]? with
    | none => rw [e] at h2; cases h2
    | some d =>
      rw [e] at h2; cases h2
      obtain ⟨v, hv, n⟩ := r.get e
      rw [hv] at h1; cases h1
      exact .sh n
  · rw [List.getElem?_append_right (by simpa using hi), List.getElem?_replicate] at h2
    split at h2 <;> cases h2
    exact .no
theorem fnG_ok {P : Program} {w : World} {T : Tx} {mg : Str → Option Value} {base : Heap} {k : Nat} {f : Addr} {fd : FuncData} {ps N : List Str} {x qual : Str} {st : Stmt} {sp : Sps} (t : RS) (F : Fun T.K x qual st f fd) (S : FnScope N ps (defScope st))
    (hder : ∀ (cdv : Value) (A : Around) (outer : List PySem.Env) (s : Shared) (H : Hp) (E : XK), Room k (A.deeper (PyProof.Rows.envOfC qual (defScope st) s.heap.objs.size f cdv)) → (A.deeper (PyProof.Rows.envOfC qual (defScope st) s.heap.objs.size f cdv)).guards = some [] →
      PSs (cxOf (L2.CX P w) P w T.K mg base N qual (defScope st) f cdv A outer s H E) (defBody st) (liftS T (fun cls d _ H => E cls d H) t))
    (hpure : ∀ ds Qd xd, ds.length = ps.length → sp ds Qd xd → t (kdOf Qd xd) (startE N ds)) : FnG P w T.K mg base (k + 1) f fd ps (spD T ps.length sp) := by
  refine fnG_of F S (fun vs H Q E h => h.len) fun cdv A outer s H vs Q E hr hg h => ⟨_, hder cdv A outer s H E hr hg, ?_⟩
  obtain ⟨c, B, ds, Qd, xd, h0, ho, r, hl, hs, q, qx⟩ := h
  have R := rel_start (N := N) ho h0 r
  refine ⟨c, B, _, kdOf Qd xd, R, fun d ρ' cls dd σ' B' H' hx e R' hd => qx d cls dd B' H' hx e (by rw [← h0]; exact R'.ent) R'.hold hd, hpure ds Qd xd hl hs, fun ρ' σ' B' H' hq e R' => ?_, fun d g ρ' v σ' B' H' hq e R' t => ?_, fun _ _ _ _ z => z.elim, fun _ _ _ _ z => z.elim⟩
  · exact q _ _ _ B' H' hq e (by rw [← h0]; exact R'.ent) R'.hold (.p .non)
  · refine q _ _ _ B' H' hq e (by rw [← h0]; exact R'.ent) R'.hold ?_
    cases t with
    | p n => exact .p n
    | f m o _ => exact .f m o
    | b h1 h2 => exact .f (R'.ownB h1 h2).1 (R'.ownB h1 h2).2

section
variable {X : Cx} {k : Nat} {f : Addr} {fd : FuncData} {ps : List Str} {sp : Sp} {W : WX}
theorem run_fnG {pins : List (Addr × Obj)} {σ : St} {H : Hp} {s : Shared} {Q : VK} {args : Args} {us : List Value} {vs : List V} (F : FnG X.prog X.w X.K X.mg X.base k f fd ps sp) (hr : Room k X.A) (hg : X.A.guards = some [])
    (tk : Takes X W) (I : Inv X pins σ H s) (hb : BindsTo s fd args (ps.zip us)) (r : Vals vs us) (h : sp vs H Q (WE W σ)) : codeAny (model X.prog X.w) X.A (.call (.ref f) args) (fun r s' => match r with | .ok (.ret v) => EP X pins σ Q v s' | .ok _ => False | .error e => X.xe e s') s := by
  refine codeAny_mono (F.run X.A X.stack s H args us vs Q (WE W σ) hr hg I.env0 hb r h) fun r s' hq => ?_
  rcases r with e | (u | _ | _ | _)
  · exact passAt tk σ pins H s e s' I hq
  all_goals first | exact I.after hq | exact False.elim hq
end
def dOwn (n : Nat) (sp : Sps) (ta : RA) : RE := fun x ρ Q => ta x ρ fun ds ρ1 => ds.length = n ∧ sp ds (fun d o => Q d (if o = true then .f else .p) ρ1) (fun e => x e ρ1)
abbrev callee {T : Tx} (c : Dx T) (σ : St) (H : Hp) (ρ : Env) : Dx T := c.ent H fun (a : Addr) => c.fb a ∨ ∃ (i : Nat) (d : D), σ[i]? = some (some (V.ref a)) ∧ ρ[i]? = some (Sl.own d)
section
variable {T : Tx} {c : Dx T} {σ : St} {B H : Hp} {ρ : Env}
theorem callee_hold (R : Rel c σ B H ρ) : Hold (callee c σ H ρ) B H := ⟨R.ex, R.pail, fun a h => by
  rcases h with h | ⟨i, d, h1, h2⟩
  · exact R.fb a h
  · obtain ⟨m, o⟩ := R.ownB h1 h2
    exact ⟨o.thereL, m.b, m.p⟩⟩
theorem callee_back (R : Rel c σ B H ρ) {B' H' : Hp} (e : Ex B B') (k : ExP (callee c σ H ρ) H H') (h : Hold (callee c σ H ρ) B' H') : Rel c σ B' H' ρ :=
  R.grow e h.ex k h.pail (fun a d i h1 h2 => (h.fb a (.inr ⟨i, d, h1, h2⟩)).2.1) fun a ha => (h.fb a (.inl ha)).2.1
theorem callee_ret (R : Rel c σ B H ρ) {B' H' : Hp} {v : V} {d : D} {o : Bool} (e : Ex B B') (k : ExP (callee c σ H ρ) H H') (h : Hold (callee c σ H ρ) B' H') (r : RetOk (callee c σ H ρ) B' H' v d o) :
    Tg c σ B' H' ρ v d (if o = true then .f else .p) := by
  cases r with
  | p n => exact .p (Den.to (c := callee c σ H ρ) (c' := c) rfl n)
  | @f a d m o =>
    refine .f ⟨m.b, m.p, ?_, fun q => m.f (.inl q)⟩ (OwnAt.to (c := callee c σ H ρ) (c' := c) rfl o) fun i e h1 h2 => m.f (.inr ⟨i, e, h1, h2⟩)
    cases q : c.H0 a with
    | none => rfl
    | some z =>
      have := R.ent a z m.p q
      have h0 : H a = none := m.h
      rw [h0] at this; cases this
end
theorem le_own {T : Tx} {W : WX} {n : Nat} {sp : Sps} {ta : RA} : ∀ σ H Q', liftE T W (dOwn n sp ta) σ H Q' → tCallS (spD T n sp) (WE W) (liftA T W ta) σ H Q' := by
  rintro σ H Q' ⟨c, B, ρ, x, Q, R, X, h, q⟩
  refine ⟨c, B, ρ, x, _, R, X, h, fun ds ρ1 vs B1 H1 h1 e1 k1 R1 t1 => ?_⟩
  refine ⟨callee c σ H1 ρ1, B1, ds, _, _, rfl, callee_hold R1, Dens.to (c := c) (c' := callee c σ H1 ρ1) rfl t1, h1.1, h1.2, fun d o v B' H' hq e k ho r => ?_, fun e cls dd B' H' hx eb k ho hd => ?_⟩
  · exact q _ _ _ v B' H' hq (e1.trans e) (k1.trans k) (callee_back R1 e k ho) (callee_ret R1 e k ho r)
  · exact X e ρ1 cls dd σ B' H' hx (e1.trans eb) (callee_back R1 eb k ho) (XDen.to (c := callee c σ H1 ρ1) (c' := c) rfl hd)
end Dc
set_option maxHeartbeats 1000000
namespace Dc
open PySem L2 PyProof.Rows PySem.W

def Keeps (X : Cx) (P : Heap → Prop) (f : Value) : Prop := ∀ h, P h → ∃ k, (k = Keeper.frame ∨ k = Keeper.machine ∨ k = Keeper.boundFrame) ∧ Looks (model X.prog X.w) h (keeperOf f) k
structure PCs (X : Cx) (es : List Expr) (kws : List Keyword) (pos : Pos) (n : Nat) (ks : List Str) (t : TA) : Prop where
  run : ∀ (P : Heap → Prop) (f : Value) (first : List Value) (pins : List (Addr × Obj)) (s : Shared) (σ : L2.St) (H : Hp) (Q : Value → Shared → Prop) (R : List V → Hp → Prop), Keeps X P f → Inv X pins σ H s → (∀ s' H', Inv X pins σ H' s' → P s'.heap) → t σ H R →
    (∀ us ws vs H2 s2, Inv X pins σ H2 s2 → Vals vs (us ++ ws) → us.length = n → ws.length = ks.length → R vs H2 → wpAny (model X.prog X.w) X.A (call f (first ++ us) (ks.zip ws)) Q X.xe s2) →
    wpAny (model X.prog X.w) X.A (callWith pos f first (backTo pos (starEach es X.env)) (backToKw pos (keywordEach kws X.env))) Q X.xe s
def tPos (n : Nat) (t : TA) : TA := fun σ H R => t σ H fun vs H1 => vs.length = n ∧ R vs H1
theorem PCs.imp {X : Cx} {es : List Expr} {kws : List Keyword} {pos : Pos} {n : Nat} {ks : List Str} {t t' : TA} (h : PCs X es kws pos n ks t) (k : ∀ σ H Q, t' σ H Q → t σ H Q) : PCs X es kws pos n ks t' :=
  ⟨fun P f first pins s σ H Q R a b c q d => h.run P f first pins s σ H Q R a b c (k σ H R q) d⟩
section
variable {X : Cx} {e : Expr} {es : List Expr} {kws : List Keyword} {pos : Pos} {n : Nat} {ks : List Str} {t tk : TA}
theorem pcs_pos (ha : PA X (e :: es) t) (he : starEach (e :: es) X.env = (false, eval e X.env) :: starEach es X.env := by rfl) (hpl : (backTo pos (starEach es X.env)).any (·.1) = false := by rfl) : PCs X (e :: es) [] pos n [] (tPos n t) := by
  refine ⟨fun P f first pins s σ H Q R hk I hP h c => ?_⟩
  show wpAny _ _ (callWith pos f first (backTo pos (starEach (e :: es) X.env)) []) _ _ _
  have z := ha.run pos pins s σ H _ I h
  rw [he] at z ⊢
  refine callWith_of (P := P) (by show ((false || (backTo pos (starEach es X.env)).any (·.1)) || false) = false; rw [hpl]; rfl) hk (Calls.evalArgs_plain (thn z fun us s2 ⟨vs, H2, I2, r, l, q⟩ => ⟨hP _ _ I2, ?_⟩))
  exact c us [] vs H2 s2 I2 (by rw [List.append_nil]; exact r) (by rw [← r.length]; exact l) rfl q
theorem pcs_kw0 (hkw : PK X kws tk) (hall : (backToKw pos (keywordEach kws X.env)).all (·.1.isSome) = true := by rfl) (hks : (backToKw pos (keywordEach kws X.env)).filterMap (·.1) = ks := by rfl)
    (hpl : ((backTo pos (starEach [] X.env)).any (·.1) || (backToKw pos (keywordEach kws X.env)).any (·.1.isNone)) = false := by rfl) : PCs X [] kws pos 0 ks (tPos ks.length tk) := by
  refine ⟨fun P f first pins s σ H Q R hk I hP h c => ?_⟩
  refine callWith_of (P := P) hpl hk (evalArgs_kw2_nil hall (thn (hkw.run pos pins s σ H _ I h) fun ws s2 ⟨zs, H2, I2, rz, l2, q2⟩ => ⟨hP _ _ I2, ?_⟩))
  rw [hks]
  exact c [] ws zs H2 s2 I2 rz rfl (by rw [← rz.length]; exact l2) q2
end
def KB (K : Frag) (fd : FuncData) (ps : List Str) (n : Nat) (ks : List Str) : Prop := ∀ (s : Shared) (us ws : List Value), K.In s.heap → us.length = n → ws.length = ks.length → BindsTo s fd ⟨us, ks.zip ws⟩ (ps.zip (us ++ ws))
theorem kb_of {K : Frag} {x qual : Str} {st : Stmt} {f : Addr} {fd : FuncData} {ps : List Str} {n : Nat} {ks : List Str} (F : Fun K x qual st f fd)
    (h : ∀ (kV doc pm : Value) (an : Option Addr) (cdv ct : Value) (us ws : List Value), us.length = n → ws.length = ks.length → bindArgs (fnOf x qual (defArgs st) (defBody st) (defScope st) .none kV doc pm an cdv ct) ⟨us, ks.zip ws⟩ = pure (ps.zip (us ++ ws))) : KB K fd ps n ks := by
  obtain ⟨oc, od, kV, doc, pm, an, cdv, ct, osl, rfl, lk, hcd⟩ := F.ex
  exact fun s us ws _ h1 h2 => BindsTo.of_looks fun M => by rw [h kV doc pm an cdv ct us ws h1 h2]; exact .now

section
variable {X : Cx} {k n : Nat} {f C p g : Addr} {fd : FuncData} {ps ks : List Str} {sp : Sp} {W : WX} {x m : Str} {np pos apos : Pos} {o : Expr} {es : List Expr} {kws : List Keyword} {to : TE} {t : TA} {pl : Sem Bool}
theorem pe_fG (F : FnG X.prog X.w X.K X.mg X.base k f fd ps sp) (hr : Room k X.A) (hgu : X.A.guards = some []) (hm : X.mg x = some (.ref f)) (hk : keepIn X.K (.ref f) = true) (hb : KB X.K fd ps n ks) (tk : Takes X W)
    (ha : PCs X es kws pos n ks t) (hg : Gl X x := by rfl) (hdb : (x == ("__debug__" : Str)) = false := by decide) : PE X (.Call (.Name x np) es kws pos) (tCallS sp (WE W) t) := by
  refine ⟨fun pins s σ H Q I h => wpAny_Call_Name_kw (ld_glob I hg hm ?_ hdb)⟩
  refine ha.run X.K.In _ [] pins s σ H _ _ (keeps_K hk) I (fun _ _ I => I.kIn) h fun us ws vs H2 s2 I2 r l1 l2 q => ?_
  exact wpAny_call (run_fnG (args := ⟨us, ks.zip ws⟩) F hr hgu tk I2 (hb s2 us ws I2.kIn l1 l2) r q)
def tPropG (C : Addr) (sp : Sp) (ta : TE) : TE := fun σ H Q => ta σ H fun x H1 => ∃ a dx vs, x = .ref a ∧ SlX.Slt H1 a C dx vs ∧ sp [.ref a] H1 Q fun _ _ _ => False
theorem pe_propG {f : Str} (c : SlX.SCls X.K C) (at_ : findIn X.K (.ref C) f = some (some (.ref p))) (get : specialIn X.K (.ref p) "__get__" = some (some (.builtin "property.__get__")))
    (ta : takesIn X.K (.ref p) = some true) (rc : ∃ rest, recIn X.K p "property" = some (.ref g :: rest)) (F : FnG X.prog X.w X.K X.mg X.base k g fd ps sp) (hr : Room (k + 1) X.A) (hgu : X.A.guards = some []) (hb : KB X.K fd ps 1 [])
    (he : PE X o to) (hbs : attributeBase o f X.env (eval o X.env) = eval o X.env := by rfl) : PE X (.Attribute o f pos) (tPropG C sp to) := by
  refine ⟨fun pins s σ H Q I h => attr_of hbs (thn (he.run pins s σ H _ I h) fun w s1 ⟨x, H1, I1, rx, a, dx, vs, ex, hs, q⟩ => ?_)⟩
  subst ex
  obtain rfl : w = Value.ref a := rx
  obtain ⟨sl, od, _, J, _⟩ := SlX.slt_inst I1 hs
  obtain ⟨rest, hrec⟩ := rc
  have I2 : Inv X pins σ H1 { s1 with toks := s1.toks + 1 } := I1.tok (s1.toks + 1)
  refine get_bind I1.kIn J (plainGet_of (c.get f)).1 (findObj_data c.ic at_ get ta) (plainGet_of (c.get f)).2 (wpAny_call (prop_get (s := { s1 with toks := s1.toks + 1 }) I1.kIn hrec ?_))
  refine codeAny_mono (F.run X.A.in1 X.stack { s1 with toks := s1.toks + 1 } H1 ⟨[.ref a], []⟩ [.ref a] [.ref a] Q _ hr.in1 hgu I2.env0.in1 (hb _ [.ref a] [] I1.kIn rfl rfl) (.cons rfl .nil) q) fun r s' hq => ?_
  cases r with
  | error e =>
    obtain ⟨_, _, _, _, _, _, _, _, _, _, _, _, z⟩ := hq
    exact z.elim
  | ok fl =>
    cases fl with
    | ret u =>
      obtain ⟨v, H', I3, rv, q⟩ := I2.after hq
      exact wpAny_of_eq (handedOut_of (handed_of rv)) ⟨v, H', I3, rv, q⟩
    | next => exact False.elim hq
    | brk => exact False.elim hq
    | cont => exact False.elim hq
end
end Dc
set_option maxHeartbeats 1000000
namespace Dc
open PySem L2 PyProof.Rows PySem.W

def dPos (n : Nat) (ra : RA) : RA := fun x ρ Q => ra x ρ fun ds ρ1 => ds.length = n ∧ Q ds ρ1
def dKw (n m : Nat) (ra rk : RA) : RA := fun x ρ Q => ra x ρ fun ds ρ1 => rk x ρ1 fun es ρ2 => ds.length = n ∧ es.length = m ∧ Q (ds ++ es) ρ2
def tagO (o : Bool) : Tag := if o = true then .f else .p
def asObj (cn : Nat) : D → (List D → Prop) → Prop
  | .obj k ds, q => k = cn ∧ q ds
  | _, _ => False
def dMeth (cn n : Nat) (sp : Sps) (to : RE) (ta : RA) : RE := fun x ρ Q => to x ρ fun d _ ρ1 => asObj cn d fun os => ta x ρ1 fun es ρ2 => es.length + 1 = n ∧ sp (.obj cn os :: es) (fun d o => Q d (tagO o) ρ2) (fun e => x e ρ2)
def dCm (C : Addr) (n : Nat) (sp : Sps) (ta : RA) : RE := fun x ρ Q => ta x ρ fun es ρ2 => es.length + 1 = n ∧ sp (.adr C :: es) (fun d o => Q d (tagO o) ρ2) (fun e => x e ρ2)
def dProp (cn : Nat) (sp : Sps) (to : RE) : RE := fun x ρ Q => to x ρ fun d _ ρ1 => asObj cn d fun os => sp [.obj cn os] (fun d o => Q d (tagO o) ρ1) (fun _ => False)
def nth (i : Nat) (ds : List D) (q : D → Prop) : Prop := match ds[i]? with
  | some e => q e
  | none => False
def dSl (cn i : Nat) (to : RE) : RE := fun x ρ Q => to x ρ fun d _ ρ1 => asObj cn d fun os => nth i os fun e => Q e .p ρ1
theorem Tm.denO {T : Tx} {c : Dx T} {B H : Hp} {v : V} {n : Nat} {ds : List D} (h : Tm c B H v (.obj n ds)) : Den c B v (.obj n ds) := by
  cases h with
  | den h => exact h
  | own _ h => cases h
section
variable {T : Tx} {W : WX} {ta : RA} {to : RE} {n cn : Nat} {sp : Sps}
theorem la_pos : ∀ σ H Q', liftA T W (dPos n ta) σ H Q' → tPos n (liftA T W ta) σ H Q' := by
  rintro σ H Q' ⟨c, B, ρ, x, Q, R, X, h, q⟩
  exact ⟨c, B, ρ, x, _, R, X, h, fun ds ρ1 vs B1 H1 h1 e1 k1 R1 t1 => ⟨by rw [t1.length]; exact h1.1, q _ _ _ B1 H1 h1.2 e1 k1 R1 t1⟩⟩
theorem spD_at {c : Dx T} {σ : L2.St} {B H : Hp} {ρ : Env} {x : XQ} {vs : List V} {ds : List D} {Q : EQ} {Q' : VK} (R : Rel c σ B H ρ) (X : XW c W B x) (t : Dens c B vs ds) (hl : ds.length = n)
    (h : sp ds (fun d o => Q d (tagO o) ρ) (fun e => x e ρ)) (q : ∀ d g ρ' v B' H', Q d g ρ' → Ex B B' → ExP c H H' → Rel c σ B' H' ρ' → Tg c σ B' H' ρ' v d g → Q' v H') : spD T n sp vs H Q' (WE W σ) := by
  refine ⟨callee c σ H ρ, B, ds, _, _, rfl, callee_hold R, Dens.to (c := c) (c' := callee c σ H ρ) rfl t, hl, h, fun d o v B' H' hq e k ho r => ?_, fun e cls dd B' H' hx eb k ho hd => ?_⟩
  · exact q _ _ _ v B' H' hq e k (callee_back R e k ho) (callee_ret R e k ho r)
  · exact X e ρ cls dd σ B' H' hx eb (callee_back R eb k ho) (XDen.to (c := callee c σ H ρ) (c' := c) rfl hd)
theorem le_prop (h1 : n = 1) : ∀ σ H Q', liftE T W (dProp cn sp to) σ H Q' → tPropG (T.cl cn) (spD T n sp) (liftE T W to) σ H Q' := by
  rintro σ H Q' ⟨c, B, ρ, x, Q, R, X, h, q⟩
  refine ⟨c, B, ρ, x, _, R, X, h, fun d g ρ1 v B1 H1 h2 e1 k1 R1 t1 => ?_⟩
  cases d <;> first | exact h2.elim | skip
  case obj k os =>
    obtain ⟨rfl, h2⟩ := h2
    have dn := (t1.tm R1).denO
    obtain ⟨a, dx, xs, rfl, hs, r⟩ := (t1.tm R1).obj_ R1.ex
    refine ⟨a, dx, _, rfl, hs, ?_⟩
    exact spD_at (W := fun _ _ _ _ => False) (x := noX) R1 XW.no (.cons dn .nil) h1.symm h2 fun d g ρ' v B' H' a1 a2 a3 a4 a5 => q _ _ _ _ B' H' a1 (e1.trans a2) (k1.trans a3) a4 a5
theorem le_sl {f : Str} {p : Addr} {i : Nat} (cc : SlX.SCls T.K (T.cl cn)) (t : SlX.Slot1 T.K (T.cl cn) f p i) : ∀ σ H Q', liftE T W (dSl cn i to) σ H Q' → SlX.tSl T.K (liftE T W to) f σ H Q' := by
  rintro σ H Q' ⟨c, B, ρ, x, Q, R, X, h, q⟩
  refine ⟨c, B, ρ, x, _, R, X, h, fun d g ρ1 v B1 H1 h2 e1 k1 R1 t1 => ?_⟩
  cases d <;> first | exact h2.elim | skip
  case obj k os =>
    obtain ⟨rfl, h2⟩ := h2
    obtain ⟨a, dx, xs, rfl, hs, r⟩ := (t1.tm R1).obj_ R1.ex
    unfold nth at h2
    split at h2
    · rename_i e he
      obtain ⟨v, hv, n⟩ := r.get he
      exact ⟨a, _, dx, p, _, i, v, rfl, hs, cc, t, by rw [List.getElem?_map, hv]; rfl, q _ _ _ _ B1 H1 h2 e1 k1 R1 (.p n)⟩
    · exact h2.elim
end

abbrev RSI := (List D → Prop) → List D → XQ → Env → Prop
abbrev SpsI := List D → (List D → Prop) → (D → Prop) → Prop
def iPre (a : RS) (b : RSI) : RSI := fun st acc x ρ => a { nx := fun ρ1 => ρ1[0]? = ρ[0]? ∧ b st acc x ρ1, rt := fun _ _ _ => False, ex := x } ρ
def iSt (te : RE) (b : RSI) : RSI := fun st acc x ρ => te x ρ fun d g ρ1 => frz (List.range ρ1.length) (leak d g ρ1) = ρ ∧ b st (acc ++ [d]) x ρ
def iEnd : RSI := fun st acc _ _ => st acc
def liftSI (T : Tx) (W : WX) (cn : Nat) (t : RSI) : TS := fun Dn σ H => ∃ (c : Dx T) (B G : Hp) (ρ : Env) (st : List D → Prop) (xd : D → Prop) (a dx : Addr) (xs : List V) (acc : List D),
  Rel c σ B H ρ ∧ ρ[0]? = some (.sh (.adr a)) ∧ c.fb a ∧ c.fb dx ∧ dx ≠ a ∧ SlX.Slt c.H0 a (T.cl cn) dx (xs.map some) ∧ Dens c B xs acc ∧ G a = none ∧ G dx = none ∧ ExP c G c.H0 ∧ t st acc (fun e _ => xd e) ρ ∧
  (∀ ds σ' B' H' xs', st ds → Ex B B' → ExP c G H' → Hold c B' H' → SlX.Slt H' a (T.cl cn) dx (xs'.map some) → Dens c B' xs' ds → Dn.nx σ' H') ∧
  (∀ e cls dd σ' B' H', xd e → Ex B B' → ExP c G H' → Hold c B' H' → XDen c B' cls dd e → W cls dd σ' H')
theorem putS_end {xs : List V} {y : V} : SlX.putS xs.length y (xs.map some) = (xs ++ [y]).map some := by
  unfold SlX.putS
  apply List.ext_getElem?
  intro j
  simp [List.getElem?_set, List.getElem?_append]
theorem frz_range_own {ρ : Env} {i : Nat} {d : D} (h : (frz (List.range ρ.length) ρ)[i]? = some (.own d)) : False := by
  obtain ⟨h1, h2⟩ := frz_own _ h
  exact h2 (List.mem_range.mpr (List.getElem?_eq_some_iff.mp h1).1)
theorem Rel.store {T : Tx} {c : Dx T} {σ : L2.St} {B H : Hp} {ρ : Env} (R : Rel c σ B H ρ) (no : ∀ (i : Nat) (d : D), ρ[i]? = some (Sl.own d) → False) {a C dx : Addr} {vs : List (Option V)} (fa : c.fb a) (fd : c.fb dx) :
    Rel (c.ent (SlX.slH H a C dx vs) c.fb) σ B (SlX.slH H a C dx vs) ρ := by
  obtain ⟨⟨ua, la, ha⟩, ba, pa⟩ := R.fb a fa
  obtain ⟨⟨ud, ld, hd⟩, bd, pd⟩ := R.fb dx fd
  have ha' : ∃ u, lsd u ∧ upd H dx (.xd []) a = some u := by
    by_cases e : a = dx
    · subst e; exact ⟨.xd [], .xd, upd_same⟩
    · exact ⟨ua, la, by rw [upd_ne e]; exact ha⟩
  refine ⟨fun b o hb => ?_, ?_, ExP.rfl', fun b hb => ?_, R.len, fun i o s h1 h2 => ?_, fun i j b d e h1 h2 => (no i d h2).elim⟩
  · have n1 : b ≠ a := ne_of_none hb ba
    have n2 : b ≠ dx := ne_of_none hb bd
    rw [SlX.slH_ne n1 n2]; exact R.ex b o hb
  · have P1 := R.pail.put (o := .xd []) hd pd (by intro ps h; cases h) ld
    obtain ⟨u, lu, hu⟩ := ha'
    exact P1.put (o := SlX.SlO a C dx vs) hu pa (by intro ps h; cases h) lu
  · obtain ⟨⟨o, lo, ho⟩, h2, h3⟩ := R.fb b hb
    refine ⟨?_, h2, h3⟩
    by_cases n1 : b = a
    · subst n1; exact ⟨SlX.SlO b C dx vs, lsd.slO _ _ _ _, upd_same⟩
    · by_cases n2 : b = dx
      · subst n2; exact ⟨.xd [], .xd, by unfold SlX.slH; rw [upd_ne n1, upd_same]⟩
      · exact ⟨o, lo, by rw [SlX.slH_ne n1 n2]; exact ho⟩
  · have z := R.sl i o s h1 h2
    cases z with
    | no => exact .no
    | sh z => exact .sh (z.ent _ _)
    | own _ _ => exact (no _ _ h2).elim
section
variable {T : Tx} {W : WX} {cn : Nat}
theorem ExP.slt {c : Dx T} {H H' : Hp} {a C dx : Addr} {vs : List (Option V)} (k : ExP c H H') (h : SlX.Slt H a C dx vs) (pa : ¬ c.wild a) (pd : ¬ c.wild dx) : SlX.Slt H' a C dx vs := by
  rcases h with ⟨h1, h2⟩ | ⟨h1, h2⟩
  · exact .inl ⟨k _ _ pa h1, h2⟩
  · exact .inr ⟨k _ _ pa h1, k _ _ pd h2⟩
theorem lsi_end : ∀ D σ H, liftSI T W cn iEnd D σ H → tNext D σ H := by
  rintro D σ H ⟨c, B, G, ρ, st, xd, a, dx, xs, acc, R, z0, fa, fd, ne, sl, dn, ga, gd, eg, h, q, qx⟩
  exact q acc σ B H xs h Ex.rfl' (eg.trans R.ent) R.hold (R.ent.slt sl (R.fb a fa).2.2 (R.fb dx fd).2.2) dn
theorem lsi_pre {a : RS} {b : RSI} : ∀ D σ H, liftSI T W cn (iPre a b) D σ H → tSeq (liftS T W a) (liftSI T W cn b) D σ H := by
  rintro D σ H ⟨c, B, G, ρ, st, xd, a, dx, xs, acc, R, z0, fa, fd, ne, sl, dn, ga, gd, eg, h, q, qx⟩
  refine ⟨c, B, ρ, _, R, fun e ρ' cls dd σ' B' H' he eb R' xd => qx e cls dd σ' B' H' he eb (eg.trans R'.ent) R'.hold xd, h, fun ρ1 σ1 B1 H1 h1 e1 R1 => ?_, fun _ _ _ _ _ _ _ z => z.elim, fun _ _ _ _ z => z.elim, fun _ _ _ _ z => z.elim⟩
  exact ⟨c, B1, G, ρ1, st, xd, a, dx, xs, acc, R1, by rw [h1.1]; exact z0, fa, fd, ne, sl, dn.mono e1, ga, gd, eg, h1.2, fun ds σ' B' H' xs' a1 a2 => q ds σ' B' H' xs' a1 (e1.trans a2), fun e cls dd σ' B' H' a1 a2 => qx e cls dd σ' B' H' a1 (e1.trans a2)⟩
theorem lsi_st {te : RE} {b : RSI} {f : Str} {p : Addr} {i : Nat} (cc : SlX.SCls T.K (T.cl cn)) (t : SlX.Slot1 T.K (T.cl cn) f p i) : ∀ D σ H, liftSI T W cn (fun st acc x ρ => acc.length = i ∧ iSt te b st acc x ρ) D σ H →
    tSeq (SlX.sSl T.K (tVar 0) (liftE T W te) f) (liftSI T W cn b) D σ H := by
  rintro D σ H ⟨c, B, G, ρ, st, xd, a, dx, xs, acc, R, z0, fa, fd, ne, sl, dn, ga, gd, eg, ⟨hi, h⟩, q, qx⟩
  refine ⟨c, B, ρ, _, _, R, fun e ρ' cls dd σ' B' H' he eb R' xd => qx e cls dd σ' B' H' he eb (eg.trans R'.ent) R'.hold xd, h, fun d g ρ1 v B1 H1 h1 e1 k1 R1 t1 => ?_⟩
  obtain ⟨hρ, h1⟩ := h1
  obtain ⟨B2, e2, R2, n2⟩ := leak_ok R1 t1
  obtain ⟨B3, e3, R3⟩ := frz_ok (List.range ρ1.length) R2
  have ll : (leak d g ρ1).length = ρ1.length := by unfold leak; split <;> simp
  rw [hρ] at R3
  have no : ∀ (i : Nat) (d : Dc.D), ρ[i]? = some (Sl.own d) → False := fun i d z => by
    rw [← hρ, ← ll] at z
    exact frz_range_own z
  have l0 : 0 < σ.length := by rw [R.len]; exact (List.getElem?_eq_some_iff.mp z0).1
  obtain ⟨o0, ho0⟩ : ∃ o, σ[0]? = some o := ⟨σ[0], by simp [l0]⟩
  have v0 : σ[0]? = some (some (.ref a)) := by
    have s := R.sl 0 o0 _ ho0 z0
    cases s with
    | sh s => cases s with | adr => exact ho0
  have hs : SlX.Slt H1 a (T.cl cn) dx (xs.map some) := R1.ent.slt sl (R.fb a fa).2.2 (R.fb dx fd).2.2
  refine ⟨.ref a, v0, a, T.cl cn, dx, p, xs.map some, i, rfl, hs, cc, t, ?_⟩
  have el : i = xs.length := by rw [dn.length]; exact hi.symm
  rw [el, putS_end]
  have R4 := R3.store no (C := T.cl cn) (vs := (xs ++ [v]).map some) fa fd
  refine ⟨_, B3, G, ρ, st, xd, a, dx, xs ++ [v], acc ++ [d], R4, z0, fa, fd, ne, SlX.slH_slt ne, ?_, ga, gd, ?_, h1, fun ds σ' B' H' xs' a1 a2 a3 a4 a5 a6 => ?_, fun e cls dd σ' B' H' a1 a2 a3 a4 a5 => ?_⟩
  · exact Dens.ent _ _ ((dn.mono (e1.trans (e2.trans e3))).append (.cons (n2.mono e3) .nil))
  · intro b o hn hb
    have n1 : b ≠ a := ne_of_none hb ga
    have n3 : b ≠ dx := ne_of_none hb gd
    show SlX.slH H1 a (T.cl cn) dx _ b = some o
    rw [SlX.slH_ne n1 n3]
    exact R1.ent b o hn (eg b o hn hb)
  · exact q ds σ' B' H' xs' a1 ((e1.trans (e2.trans e3)).trans a2) a3 ⟨a4.ex, a4.pail, a4.fb⟩ a5 (Dens.to (c := c.ent (SlX.slH H1 a (T.cl cn) dx ((xs ++ [v]).map some)) c.fb) (c' := c) rfl a6)
  · exact qx e cls dd σ' B' H' a1 ((e1.trans (e2.trans e3)).trans a2) a3 ⟨a4.ex, a4.pail, a4.fb⟩ (XDen.to (c := c.ent (SlX.slH H1 a (T.cl cn) dx ((xs ++ [v]).map some)) c.fb) (c' := c) rfl a5)
end
def spI (T : Tx) (cn n : Nat) (sp : SpsI) : Sp := fun vs H Q E => ∃ (c : Dx T) (B G : Hp) (a dx : Addr) (ws : List V) (ds : List D) (Qd : List D → Prop) (xd : D → Prop), vs = .ref a :: ws ∧ c.H0 = H ∧ Hold c B H ∧ c.fb a ∧ c.fb dx ∧ dx ≠ a ∧
  H a = some (.ins (T.cl cn) dx []) ∧ G a = none ∧ G dx = none ∧ ExP c G H ∧ Dens c B ws ds ∧ ds.length + 1 = n ∧ sp ds Qd xd ∧
  (∀ os B' H' xs, Qd os → Ex B B' → ExP c G H' → Hold c B' H' → SlX.Slt H' a (T.cl cn) dx (xs.map some) → Dens c B' xs os → Q .non H') ∧
  (∀ e cls dd B' H', xd e → Ex B B' → ExP c G H' → Hold c B' H' → XDen c B' cls dd e → E cls dd H')
theorem fnI_ok {P : Program} {w : World} {T : Tx} {mg : Str → Option Value} {base : Heap} {k cn : Nat} {f : Addr} {fd : FuncData} {ps N : List Str} {x qual : Str} {st : Stmt} {sp : SpsI} (t : RSI) (F : Fun T.K x qual st f fd) (S : FnScope N ps (defScope st))
    (hder : ∀ (cdv : Value) (A : Around) (outer : List PySem.Env) (s : Shared) (H : Hp) (E : XK), Room k (A.deeper (PyProof.Rows.envOfC qual (defScope st) s.heap.objs.size f cdv)) → (A.deeper (PyProof.Rows.envOfC qual (defScope st) s.heap.objs.size f cdv)).guards = some [] →
      PSs (cxOf (L2.CX P w) P w T.K mg base N qual (defScope st) f cdv A outer s H E) (defBody st) (liftSI T (fun cls d _ H => E cls d H) cn t))
    (hpure : ∀ a ds Qd xd, ds.length + 1 = ps.length → sp ds Qd xd → t Qd [] (fun e _ => xd e) (startE N (.adr a :: ds))) : FnG P w T.K mg base (k + 1) f fd ps (spI T cn ps.length sp) := by
  refine fnG_of F S (fun vs H Q E h => ?_) fun cdv A outer s H vs Q E hr hg h => ⟨_, hder cdv A outer s H E hr hg, ?_⟩
  · obtain ⟨c, B, G, a, dx, ws, ds, Qd, xd, rfl, _, _, _, _, _, _, _, _, _, r, hl, _⟩ := h
    simp [r.length, hl]
  · obtain ⟨c, B, G, a, dx, ws, ds, Qd, xd, rfl, h0, ho, fa, fd, ne, ha, ga, gd, eg, r, hl, hs, q, qx⟩ := h
    have R := rel_start (N := N) (vs := .ref a :: ws) (ds := .adr a :: ds) ho h0 (.cons .adr r)
    refine ⟨c, B, G, _, Qd, xd, a, dx, [], [], R, by simp [startE], fa, fd, ne, .inl ⟨by rw [h0]; exact ha, rfl⟩, .nil, ga, gd, by rw [h0]; exact eg, hpure a ds Qd xd hl hs, fun os σ' B' H' xs a1 a2 a3 a4 a5 a6 => q os B' H' xs a1 a2 a3 a4 a5 a6, fun e cls dd σ' B' H' a1 a2 a3 a4 a5 => qx e cls dd B' H' a1 a2 a3 a4 a5⟩

def tMkG (C : Addr) (sp : Sp) (W : WX) (t : TA) : TE := fun σ H Q => t σ H fun vs H1 => ∀ x dx, H1 x = none → H1 dx = none → dx ≠ x → sp (.ref x :: vs) (upd (upd H1 dx (.own x)) x (.ins C dx [])) (fun v H2 => v = .non ∧ Q (.ref x) H2) (WE W σ)
section
variable {X : Cx} {k n : Nat} {f C : Addr} {fd : FuncData} {ps ks : List Str} {sp : Sp} {W : WX} {x : Str} {np pos : Pos} {es : List Expr} {kws : List Keyword} {t : TA}
theorem pe_mkG (M : Mk X.K C f) (F : FnG X.prog X.w X.K X.mg X.base k f fd ps sp) (hr : Room (k + 1) X.A) (hgu : X.A.guards = some []) (hm : X.mg x = some (.ref C)) (hb : KB X.K fd ps (n + 1) ks) (tk : Takes X W)
    (ha : PCs X es kws pos n ks t) (hg : Gl X x := by rfl) (hdb : (x == ("__debug__" : Str)) = false := by decide) : PE X (.Call (.Name x np) es kws pos) (tMkG C sp W t) := by
  refine ⟨fun pins s σ H Q I h => wpAny_Call_Name_kw (ld_glob I hg hm ?_ hdb)⟩
  refine ha.run X.K.In _ [] pins s σ H _ _ (keeps_K M.kp) I (fun _ _ I => I.kIn) h fun us ws vs H2 s2 I2 r l1 l2 q => ?_
  have hq := q (s2.heap.objs.size + 1) s2.heap.objs.size (I2.hok.fresh (Nat.le_succ _)) (I2.hok.fresh (Nat.le_refl _)) (Nat.ne_of_lt (Nat.lt_succ_self _))
  have I3 := Inv.made (C := C) I2
  refine wpAny_call (make_map (f := f) I2.kIn M.makes M.init (beq_iff_eq.mp M.fn) (codeAny_mono (F.run _ X.stack _ _ ⟨Value.ref (s2.heap.objs.size + 1) :: us, ks.zip ws⟩ (Value.ref (s2.heap.objs.size + 1) :: (us ++ ws)) _ _ _ (hr.make C us (ks.zip ws)) hgu
    (I3.env0.make C us (ks.zip ws)) (hb _ (Value.ref (s2.heap.objs.size + 1) :: us) ws I3.kIn (by simp [l1]) l2) (.cons (show RelV (V.ref (s2.heap.objs.size + 1)) (Value.ref (s2.heap.objs.size + 1)) from rfl) r) hq) fun r s' hq' => ?_))
  cases r with
  | error e => exact passAt tk σ pins _ _ e s' I3 hq'
  | ok fl =>
    cases fl with
    | ret u =>
      obtain ⟨v, H', I4, rv, ev, q3⟩ := I3.after hq'
      subst ev
      exact ⟨rv, ⟨V.ref (s2.heap.objs.size + 1), H', I4, rfl, q3⟩⟩
    | next => exact False.elim hq'
    | brk => exact False.elim hq'
    | cont => exact False.elim hq'
end
def dMake (cn n : Nat) (sp : SpsI) (ta : RA) : RE := fun x ρ Q => ta x ρ fun ds ρ1 => ds.length + 1 = n ∧ sp ds (fun os => Q (.obj cn os) .p ρ1) (fun e => x e ρ1)
theorem le_make {T : Tx} {W : WX} {cn n : Nat} {sp : SpsI} {ta : RA} : ∀ σ H Q', liftE T W (dMake cn n sp ta) σ H Q' → tMkG (T.cl cn) (spI T cn n sp) W (liftA T W ta) σ H Q' := by
  rintro σ H Q' ⟨c, B, ρ, x, Q, R, X, h, q⟩
  refine ⟨c, B, ρ, x, _, R, X, h, fun ds ρ1 vs B1 H1 h1 e1 k1 R1 t1 => fun a dx na nd ne => ?_⟩
  have fr : ∀ b, (c.fb b ∨ ∃ (i : Nat) (d : D), σ[i]? = some (some (V.ref b)) ∧ ρ1[i]? = some (Sl.own d)) → (∃ o, lsd o ∧ H1 b = some o) ∧ B1 b = none ∧ ¬ c.wild b := fun b hb => by
    rcases hb with hb | ⟨i, d, w1, w2⟩
    · exact R1.fb b hb
    · obtain ⟨m, o⟩ := R1.ownB w1 w2
      exact ⟨o.thereL, m.b, m.p⟩
  have bn : B1 a = none ∧ B1 dx = none := ⟨R1.ex.free na, R1.ex.free nd⟩
  have pn : ¬ c.wild a ∧ ¬ c.wild dx := ⟨(R1.mine na).p, (R1.mine nd).p⟩
  have H2e : ∀ b o, H1 b = some o → (upd (upd H1 dx (.own a)) a (.ins (T.cl cn) dx [])) b = some o := fun b o hb => by
    rw [upd_ne (ne_of_none hb na), upd_ne (ne_of_none hb nd)]; exact hb
  let c2 : Dx T := c.ent (upd (upd H1 dx (.own a)) a (.ins (T.cl cn) dx [])) fun b => (c.fb b ∨ ∃ (i : Nat) (d : D), σ[i]? = some (some (V.ref b)) ∧ ρ1[i]? = some (Sl.own d)) ∨ b = a ∨ b = dx
  have ho : Hold c2 B1 (upd (upd H1 dx (.own a)) a (.ins (T.cl cn) dx [])) := by
    refine ⟨fun b o hb => H2e b o (R1.ex b o hb), ?_, fun b hb => ?_⟩
    · have P1 : Pail c B1 (upd H1 dx (.own a)) := R1.pail.new nd (by intro ps h; cases h) R1.pail.nb
      have P2 : Pail c B1 (upd (upd H1 dx (.own a)) a (.ins (T.cl cn) dx [])) := P1.new (by rw [upd_ne ne.symm]; exact na) (by intro ps h; cases h) R1.pail.nb
      exact P2
    · rcases hb with hb | rfl | rfl
      · obtain ⟨⟨o, lo, ho⟩, z2, z3⟩ := fr b hb
        exact ⟨⟨o, lo, H2e b o ho⟩, z2, z3⟩
      · exact ⟨⟨.ins (T.cl cn) dx [], .ins, upd_same⟩, bn.1, pn.1⟩
      · exact ⟨⟨.own a, .own, by rw [upd_ne ne, upd_same]⟩, bn.2, pn.2⟩
  refine ⟨c2, B1, H1, a, dx, vs, ds, _, _, rfl, rfl, ho, .inr (.inl rfl), .inr (.inr rfl), ne, upd_same, na, nd, (fun b o _ hb => H2e b o hb), Dens.to (c := c) (c' := c2) rfl t1, h1.1, h1.2, fun os B' H' xs hq eb kg ho' hs hd => ⟨rfl, ?_⟩, fun e cls dd B' H' hx eb kg ho' hd => ?_⟩
  · have ba := (ho'.fb a (.inr (.inl rfl))).2.1
    have bd := (ho'.fb dx (.inr (.inr rfl))).2.1
    let B2 : Hp := fun b => if b = a ∨ b = dx then H' b else B' b
    have E2 : Ex B' B2 := fun b o hb => by
      have n1 : b ≠ a := ne_of_none hb ba
      have n2 : b ≠ dx := ne_of_none hb bd
      show (if b = a ∨ b = dx then H' b else B' b) = some o
      rw [if_neg (by simp [n1, n2])]; exact hb
    have E3 : Ex B2 H' := fun b o hb => by
      have hb : (if b = a ∨ b = dx then H' b else B' b) = some o := hb
      split at hb
      · exact hb
      · exact ho'.ex b o hb
    have ne2 : ∀ b, (∃ o, H1 b = some o) → B' b = none → B2 b = none := fun b ⟨o, hb⟩ hn => by
      show (if b = a ∨ b = dx then H' b else B' b) = none
      rw [if_neg (by rintro (z | z) <;> subst z <;> simp_all)]; exact hn
    have R2 : Rel c σ B2 H' ρ1 := by
      have P0 : Pail c B' H' := ho'.pail
      have th : ∀ b, (∃ o, lsd o ∧ H1 b = some o) → ∃ o, H1 b = some o := fun b ⟨o, _, h⟩ => ⟨o, h⟩
      refine R1.grow (eb.trans E2) E3 kg (P0.toB fun b hb => ?_) (fun b d i w1 w2 => ?_) (fun b hb => ?_)
      · exact ne2 b (R1.pail.there hb) (P0.nb b hb)
      · exact ne2 b (th b (fr b (.inr ⟨i, d, w1, w2⟩)).1) (ho'.fb b (.inl (.inr ⟨i, d, w1, w2⟩))).2.1
      · exact ne2 b (th b (fr b (.inl hb)).1) (ho'.fb b (.inl (.inl hb))).2.1
    have sB : SlX.Slt B2 a (T.cl cn) dx (xs.map some) := by
      have g1 : B2 a = H' a := if_pos (.inl rfl)
      have g2 : B2 dx = H' dx := if_pos (.inr rfl)
      rcases hs with ⟨s1, s2⟩ | ⟨s1, s2⟩
      · exact .inl ⟨by rw [g1]; exact s1, s2⟩
      · exact .inr ⟨by rw [g1]; exact s1, by rw [g2]; exact s2⟩
    exact q _ _ _ _ B2 H' hq (e1.trans (eb.trans E2)) (k1.trans kg) R2 (.p (.obj sB ((Dens.to (c := c2) (c' := c) rfl hd).mono E2)))
  · have R2 : Rel c σ B' H' ρ1 := R1.grow eb ho'.ex kg (show Pail c B' H' from ho'.pail) (fun b d i w1 w2 => (ho'.fb b (.inl (.inr ⟨i, d, w1, w2⟩))).2.1) (fun b hb => (ho'.fb b (.inl (.inl hb))).2.1)
    exact X e ρ1 cls dd σ B' H' hx (e1.trans eb) R2 (XDen.to (c := c2) (c' := c) rfl hd)
end Dc
set_option maxHeartbeats 1000000
namespace Dc
open PySem L2 PyProof.Rows PySem.W

abbrev F2 := D → D → (D → Tag → Prop) → Prop
abbrev F1 := D → (D → Tag → Prop) → Prop
abbrev FN := List D → (D → Tag → Prop) → Prop
abbrev FM := D → List D → (D → Tag → Prop) → Prop
def r2D (T : Tx) (f : F2) : R2 := fun v1 v2 H Q' => ∃ (c : Dx T) (B : Hp) (d1 d2 : D) (k : D → Tag → Prop), Ex B H ∧ Tm c B H v1 d1 ∧ Tm c B H v2 d2 ∧ f d1 d2 k ∧ ∀ d g v H', k d g → Res c B H H' v d g → Q' v H'
def r1D (T : Tx) (f : F1) : V → Hp → VK → Prop := fun v1 H Q' => ∃ (c : Dx T) (B : Hp) (d1 : D) (k : D → Tag → Prop), Ex B H ∧ Tm c B H v1 d1 ∧ f d1 k ∧ ∀ d g v H', k d g → Res c B H H' v d g → Q' v H'
def rND (T : Tx) (f : FN) : List V → Hp → VK → Prop := fun vs H Q' => ∃ (c : Dx T) (B : Hp) (ds : List D) (k : D → Tag → Prop), Ex B H ∧ Tms c B H vs ds ∧ f ds k ∧ ∀ d g v H', k d g → Res c B H H' v d g → Q' v H'
theorem p2D {T : Tx} {f : F2} : P2 T (r2D T f) f := fun c B H v1 v2 d1 d2 k Q' a b e h q => ⟨c, B, d1, d2, k, a, b, e, h, q⟩
theorem p1D {T : Tx} {f : F1} : P1 T (r1D T f) f := fun c B H v1 d1 k Q' a b h q => ⟨c, B, d1, k, a, b, h, q⟩
theorem pND {T : Tx} {f : FN} : PN T (rND T f) f := fun c B H vs ds k Q' a b h q => ⟨c, B, ds, k, a, b, h, q⟩

section
variable {X : Cx} {T : Tx} {W : WX} {a b c e : Expr} {es : List Expr} {ra rb rc re : RE} {rs rr : RA} {rt ru : RT} {pos : Pos}
theorem qe_var (i : Nat) {x : Str} (hN : X.N[i]? = some x := by rfl) (hv : Vis X.env.scope x := by first | exact Or.inl rfl | exact Or.inr (Or.inl rfl) | exact Or.inr (Or.inr rfl)) (hd : (x == ("__debug__" : Str)) = false := by decide)
    (hcd : (x == ("__classdict__" : Str)) = false := by decide) : PE X (.Name x pos) (liftE T W (dVar i)) := (pe_var hN hv hd hcd).imp le_var
theorem qe_int {i : Int} {j} : PE X (.Constant (.int i) j pos) (liftE T W (dC (.int i))) := pe_int.imp (le_c fun _ _ => .int i)
theorem qe_bl {i : Bool} {j} : PE X (.Constant (.bool i) j pos) (liftE T W (dC (.bl i))) := pe_bl.imp (le_c fun _ _ => .bl i)
theorem qe_str {i : Str} {j} : PE X (.Constant (.str i) j pos) (liftE T W (dC (.str i))) := pe_str.imp (le_c fun _ _ => .str i)
theorem qe_non {j} : PE X (.Constant .none j pos) (liftE T W (dC .non)) := pe_non.imp (le_c fun _ _ => .non)
theorem qe_glob {x : Str} {v : V} {u : Value} {d : D} (hm : X.mg x = some u) (r : RelV v u) (n : ∀ (c : Dx T) B, Den c B v d) (hg : Gl X x := by rfl) (hd : (x == ("__debug__" : Str)) = false := by decide) : PE X (.Name x pos) (liftE T W (dC d)) := (pe_glob hg hm r hd).imp (le_c n)
theorem qe_op {op : Operator} {f : F2} (ho : OpR X (binaryOp op) (r2D T f)) (ha : PE X a (liftE T W ra)) (hb : PE X b (liftE T W rb)) : PE X (.BinOp a op b pos) (liftE T W (dOp f ra rb)) := (pe_op ho ha hb).imp (le_op p2D)
theorem qe_un {op : UnaryOp} {f : F1} (ho : UnR X (unaryOp op) (r1D T f)) (ha : PE X a (liftE T W ra)) : PE X (.UnaryOp op a pos) (liftE T W (dUn f ra)) := (pe_un ho ha).imp (le_un p1D)
theorem qe_cmp {op : CmpOp} {f : F2} (ho : OpR X (compareOp op) (r2D T f)) (ha : PE X a (liftE T W ra)) (hb : PE X b (liftE T W rb)) (hm : behindInMarks op b = false := by first | exact nobehind _ (by decide) (by decide) | rfl) :
    PE X (.Compare a [op] [b] pos) (liftE T W (dOp f ra rb)) := (pe_cmpR ho ha hb hm).imp (le_op p2D)
theorem qt_cmp {op : CmpOp} {f : F2} (ho : OpR X (compareOp op) (r2D T f)) (ha : PE X a (liftE T W ra)) (hb : PE X b (liftE T W rb)) (hm : behindInMarks op b = false := by first | exact nobehind _ (by decide) (by decide) | rfl) :
    PT X (.Compare a [op] [b] pos) (liftT T W (dTest (dOp f ra rb))) := (pt_cmpR ho ha hb hm).imp (lt_cmp p2D)
theorem qt_chain {op op' : CmpOp} {f g : F2} (ho : OpR X (compareOp op) (r2D T f)) (ho' : OpR X (compareOp op') (r2D T g)) (ha : PE X a (liftE T W ra)) (hb : PE X b (liftE T W rb)) (hc : PE X c (liftE T W rc))
    (hm : lastMarks [op, op'] [b, c] = false := by with_unfolding_all rfl) : PT X (.Compare a [op, op'] [b, c] pos) (liftT T W (dTest (dChain f g ra rb rc))) := (pt_chain ho ho' ha hb hc hm).imp (lt_chain p2D p2D)
theorem qe_ix {f : F2} (ho : IxR X (r2D T f)) (ha : PE X a (liftE T W ra)) (hb : PE X b (liftE T W rb)) (hs : PlainIx b := by intro _ _; rfl) : PE X (.Subscript a b pos) (liftE T W (dOp f ra rb)) := (pe_ix ho ha hb hs).imp (le_op p2D)
theorem qe_tup {x1} (h : PA X es (liftA T W rs)) : PE X (.Tuple es x1 pos) (liftE T W (dTup rs)) := (pe_tup h).imp le_tup
theorem qe_lst (h : PA X es (liftA T W rs)) : PE X (.List es pos) (liftE T W (dLst rs)) := (pe_lst h).imp le_lst
theorem qe_if (hc : PT X c (liftT T W rt)) (ha : PE X a (liftE T W ra)) (hb : PE X b (liftE T W rb)) : PE X (.IfExp c a b pos) (liftE T W (dIf rt ra rb)) := (pe_ifExp hc ha hb).imp le_if
theorem qe_one {op} (ha : PE X a (liftE T W ra)) : PE X (.BoolOp op [a] pos) (liftE T W ra) := pe_one ha
theorem qe_and (ha : PE X a (liftE T W ra)) (hb : PE X (.BoolOp .And (b :: es) pos) (liftE T W rb)) : PE X (.BoolOp .And (a :: b :: es) pos) (liftE T W (dAndV ra rb)) := (pe_and ha hb).imp le_andV
theorem qe_or (ha : PE X a (liftE T W ra)) (hb : PE X (.BoolOp .Or (b :: es) pos) (liftE T W rb)) : PE X (.BoolOp .Or (a :: b :: es) pos) (liftE T W (dOrV ra rb)) := (pe_or ha hb).imp le_orV
theorem qe_not (ha : PE X a (liftE T W ra)) : PE X (.UnaryOp .Not a pos) (liftE T W (dNotV ra)) := (pe_not ha).imp le_notV
theorem qa_nil : PA X [] (liftA T W dNil) := pa_nil.imp la_nil
theorem qa_cons (ha : PE X e (liftE T W re)) (hr : PA X es (liftA T W rr)) (hs : starEach (e :: es) X.env = (false, eval e X.env) :: starEach es X.env := by rfl) : PA X (e :: es) (liftA T W (dCons re rr)) := (pa_cons ha hr hs).imp la_cons
theorem qb_nil : PA X [] (liftB T W dNil) := pa_nil.imp lb_nil
theorem qb_cons (ha : PE X e (liftE T W re)) (hr : PA X es (liftB T W rr)) (hs : starEach (e :: es) X.env = (false, eval e X.env) :: starEach es X.env := by rfl) : PA X (e :: es) (liftB T W (dConsB re rr)) := (pa_cons ha hr hs).imp lb_cons
theorem qk_nil : PK X [] (liftA T W dNil) := ⟨fun pos pins s σ H Q I h => pk_nil.run pos pins s σ H Q I (la_nil σ H Q h)⟩
theorem qk_cons {nm : Option Str} {kpos : Pos} {kws : List Keyword} (ha : PE X e (liftE T W re)) (hr : PK X kws (liftA T W rr)) : PK X (⟨nm, e, kpos⟩ :: kws) (liftA T W (dCons re rr)) := ⟨fun pos pins s σ H Q I h => (pk_cons ha hr).run pos pins s σ H Q I (la_cons σ H Q h)⟩
theorem qe_callB {x : Str} {p : Pos} {id : String} {f : FN} (hc : CallR X (.builtin id) (rND T f)) (hm : X.mg x = none) (hv : bootBuiltins x = some (.builtin id)) (ha : PA X (e :: es) (liftB T W rs)) (hg : Gl X x := by rfl) (hn : x ≠ "__name__" := by decide) (hdb : (x == ("__debug__" : Str)) = false := by decide)
    (he : starEach (e :: es) X.env = (false, eval e X.env) :: starEach es X.env := by rfl) (hpl : (backTo pos (starEach es X.env)).any (·.1) = false := by rfl) : PE X (.Call (.Name x p) (e :: es) [] pos) (liftE T W (dCall f rs)) := (pe_callB hc hg hm hv ha hn hdb he hpl).imp (le_callB pND)
theorem qe_callT {x : Str} {p : Pos} {id : String} {f : FN} (hc : CallR X (.type id) (rND T f)) (hm : X.mg x = none) (hv : bootBuiltins x = some (.type id)) (ha : PA X (e :: es) (liftB T W rs)) (hg : Gl X x := by rfl) (hn : x ≠ "__name__" := by decide) (hdb : (x == ("__debug__" : Str)) = false := by decide)
    (he : starEach (e :: es) X.env = (false, eval e X.env) :: starEach es X.env := by rfl) (hpl : (backTo pos (starEach es X.env)).any (·.1) = false := by rfl) : PE X (.Call (.Name x p) (e :: es) [] pos) (liftE T W (dCall f rs)) := (pe_callTy hc hg hm hv ha hn hdb he hpl).imp (le_callB pND)
theorem qt_truth (ha : PE X a (liftE T W ra)) (hK : X.K = T.K := by rfl) (he : ∀ whole, isTrue a X.env whole = (do let v ← whole; standAt a.pos; holding [v] (truthy v)) := by intro _; rfl) : PT X a (liftT T W (dTruth ra)) :=
  (pt_truth ha he).imp (by rw [hK]; exact lt_truth)
theorem qt_not (ha : PT X a (liftT T W rt)) : PT X (.UnaryOp .Not a pos) (liftT T W (dNot rt)) := (pt_not ha).imp lt_not
theorem qw_and1 (ha : PT X a (liftT T W rt)) : PW X (.BoolOp .And [a] pos) (liftT T W rt) := pw_and1 ha
theorem qw_or1 (ha : PT X a (liftT T W rt)) : PW X (.BoolOp .Or [a] pos) (liftT T W rt) := pw_or1 ha
theorem qw_and (ha : PT X a (liftT T W rt)) (hb : PW X (.BoolOp .And (b :: es) pos) (liftT T W ru)) : PW X (.BoolOp .And (a :: b :: es) pos) (liftT T W (dAnd rt ru)) := (pw_and ha hb).imp lt_and
theorem qw_or (ha : PT X a (liftT T W rt)) (hb : PW X (.BoolOp .Or (b :: es) pos) (liftT T W ru)) : PW X (.BoolOp .Or (a :: b :: es) pos) (liftT T W (dOr rt ru)) := (pw_or ha hb).imp lt_or
theorem qe_f {k n n' : Nat} {f : Addr} {fd : FuncData} {ps ks : List Str} {sp : Sps} {x : Str} {np : Pos} {kws : List Keyword} (F : FnG X.prog X.w X.K X.mg X.base k f fd ps (spD T n sp)) (hr : Room k X.A) (hgu : X.A.guards = some []) (hm : X.mg x = some (.ref f)) (hk : keepIn X.K (.ref f) = true)
    (hb : KB X.K fd ps n' ks) (tk : Takes X W) (ha : PCs X es kws pos n' ks (liftA T W rs)) (hg : Gl X x := by rfl) (hdb : (x == ("__debug__" : Str)) = false := by decide) : PE X (.Call (.Name x np) es kws pos) (liftE T W (dOwn n sp rs)) := (pe_fG F hr hgu hm hk hb tk ha hg hdb).imp le_own
theorem qc_pos {n : Nat} (ha : PA X (e :: es) (liftA T W rs)) (he : starEach (e :: es) X.env = (false, eval e X.env) :: starEach es X.env := by rfl) (hpl : (backTo pos (starEach es X.env)).any (·.1) = false := by rfl) : PCs X (e :: es) [] pos n [] (liftA T W (dPos n rs)) :=
  (pcs_pos ha he hpl).imp la_pos
theorem qc_kw0 {ks : List Str} {kws : List Keyword} (ha : PK X kws (liftA T W rs)) (hall : (backToKw pos (keywordEach kws X.env)).all (·.1.isSome) = true := by rfl) (hks : (backToKw pos (keywordEach kws X.env)).filterMap (·.1) = ks := by rfl)
    (hpl : ((backTo pos (starEach [] X.env)).any (·.1) || (backToKw pos (keywordEach kws X.env)).any (·.1.isNone)) = false := by rfl) : PCs X [] kws pos 0 ks (liftA T W (dPos ks.length rs)) := (pcs_kw0 ha hall hks hpl).imp la_pos
theorem qe_prop {k cn : Nat} {f : Addr} {p : Addr} {fd : FuncData} {ps : List Str} {sp : Sps} {m : Str} {o : Expr} {ro : RE} (c : SlX.SCls X.K (T.cl cn)) (at_ : findIn X.K (.ref (T.cl cn)) m = some (some (.ref p))) (get : specialIn X.K (.ref p) "__get__" = some (some (.builtin "property.__get__")))
    (ta : takesIn X.K (.ref p) = some true) (rc : ∃ rest, recIn X.K p "property" = some (.ref f :: rest)) (F : FnG X.prog X.w X.K X.mg X.base k f fd ps (spD T 1 sp)) (hr : Room (k + 1) X.A) (hgu : X.A.guards = some []) (hb : KB X.K fd ps 1 [])
    (he : PE X o (liftE T W ro)) (hbs : attributeBase o m X.env (eval o X.env) = eval o X.env := by rfl) : PE X (.Attribute o m pos) (liftE T W (dProp cn sp ro)) := (pe_propG c at_ get ta rc F hr hgu hb he hbs).imp (le_prop rfl)
theorem qe_sl {cn i : Nat} {f : Str} {p : Addr} {o : Expr} {ro : RE} (cc : SlX.SCls T.K (T.cl cn)) (t : SlX.Slot1 T.K (T.cl cn) f p i) (he : PE X o (liftE T W ro)) (hK : X.K = T.K := by rfl) (hb : attributeBase o f X.env (eval o X.env) = eval o X.env := by rfl) : PE X (.Attribute o f pos) (liftE T W (dSl cn i ro)) :=
  (SlX.pe_sl he hb).imp (by rw [hK]; exact le_sl cc t)
theorem qe_mk {k n n' cn : Nat} {f : Addr} {fd : FuncData} {ps ks : List Str} {sp : SpsI} {x : Str} {np : Pos} {kws : List Keyword} (M : Mk X.K (T.cl cn) f) (F : FnG X.prog X.w X.K X.mg X.base k f fd ps (spI T cn n sp)) (hr : Room (k + 1) X.A) (hgu : X.A.guards = some []) (hm : X.mg x = some (.ref (T.cl cn)))
    (hb : KB X.K fd ps (n' + 1) ks) (tk : Takes X W) (ha : PCs X es kws pos n' ks (liftA T W rs)) (hg : Gl X x := by rfl) (hdb : (x == ("__debug__" : Str)) = false := by decide) : PE X (.Call (.Name x np) es kws pos) (liftE T W (dMake cn n sp rs)) := (pe_mkG M F hr hgu hm hb tk ha hg hdb).imp le_make
end
section
variable {X : Cx} {T : Tx} {W : WX} {c e : Expr} {st : Stmt} {a b rest : List Stmt} {re : RE} {rt : RT} {s t u : RS} {pos : Pos}
theorem qss_nil : PSs X [] (liftS T W sNext) := pss_nil.imp ls_next
theorem qss_cons (h1 : PS X st (liftS T W s)) (h2 : PSs X rest (liftS T W t)) : PSs X (st :: rest) (liftS T W (sSeq s t)) := (pss_cons h1 h2).imp ls_seq
theorem qs_expr (he : PE X e (liftE T W re)) (hs : swapsWith e none pos.line X.env = pure false := by rfl) : PS X (.Expr e pos) (liftS T W (sDrop re)) := (ps_expr he hs).imp ls_drop
theorem qs_ret (he : PE X e (liftE T W re)) : PS X (.Return (some e) pos) (liftS T W (sRet re)) := (ps_ret he).imp ls_ret
theorem qs_if (hc : PT X c (liftT T W rt)) (ha : PSs X a (liftS T W s)) (hb : PSs X b (liftS T W t)) : PS X (.If c a b pos) (liftS T W (sIf rt s t)) := (ps_if hc ha hb).imp ls_if
theorem qs_set (i : Nat) {x : Str} {pos' : Pos} (hN : X.N.Nodup) (he : PE X e (liftE T W re)) (hi : X.N[i]? = some x := by rfl) (hx : Loc X.env.scope x := by first | exact Or.inl rfl | exact Or.inr rfl) (hs : swapsWith e (some (.Name x pos')) pos.line X.env = pure false := by rfl)
    (hf : X.fn x = true ∨ X.env.scope.names.lookup x = some .local := by first | exact .inl rfl | exact .inr rfl | assumption) : PS X (.Assign [.Name x pos'] e pos) (liftS T W (sSet i re)) := (ps_set hN hi hx he hs hf).imp ls_set
theorem qs_asg {tg : Expr} {js : List Nat} {g : RG} (he : PE X e (liftE T W re)) (hg : PG X tg (liftG T js g)) (hs : swapsWithSole [tg] e pos.line X.env = pure false := by rfl) (hw : swappedStores [tg] e X.env = pure none := by rfl)
    (h1 : (assignEach [tg] X.env).map (·.2) = [assign tg X.env] := by rfl) : PS X (.Assign [tg] e pos) (liftS T W (sAsg re g)) := (ps_asg he hg hs hw h1).imp ls_asg
theorem qg_name (i : Nat) {x : Str} (hN : X.N.Nodup) (hi : X.N[i]? = some x := by rfl) (hx : Loc X.env.scope x := by first | exact Or.inl rfl | exact Or.inr rfl) (hf : X.fn x = true ∨ X.env.scope.names.lookup x = some .local := by first | exact .inl rfl | exact .inr rfl | assumption) :
    PG X (.Name x pos) (liftG T [i] (gN i)) := (pg_name hN hi hx hf).imp lg_name
theorem qgs_nil : PGs X [] (liftGs T [] gsNil) := pgs_nil.imp lgs_nil
theorem qgs_cons {tg : Expr} {tgs : List Expr} {js ks : List Nat} {g : RG} {gs : RGs} (h1 : PG X tg (liftG T js g)) (h2 : PGs X tgs (liftGs T ks gs))
    (hs : (assignEach (tg :: tgs) X.env).map (·.2) = assign tg X.env :: (assignEach tgs X.env).map (·.2) := by rfl) : PGs X (tg :: tgs) (liftGs T (js ++ ks) (gsCons g gs)) := (pgs_cons h1 h2 hs).imp lgs_cons
theorem qg_tup {tgs : List Expr} {js : List Nat} {gs : RGs} {k n : Nat} (hc : X.calm = true) (h : PGs X tgs (liftGs T js gs)) (hK : X.K = T.K := by rfl) (hn : (assignEach tgs X.env).length = n := by rfl) (hst : (assignEach tgs X.env).findIdx? (·.1) = none := by rfl) :
    PG X (.Tuple tgs k pos) (liftG T js (gT n gs)) := (pg_tup hc h hn hst).imp (by rw [hK]; exact lg_tup)
variable {tg iter : Expr} {ri : RI} {js : List Nat} {g : RG}
theorem qi_range1 {p : Pos} {rs : RA} (hm : X.mg "range" = none) (ha : PA X [e] (liftB T W rs)) (hg : Gl X "range" := by rfl) (hs : starEach [e] X.env = [(false, eval e X.env)] := by rfl) : PI X tg (.Call (.Name "range" p) [e] [] pos) (liftI T W (iRange1 rs)) := (pi_range1 hg hm ha hs).imp li_range1
theorem qs_for (hp : PassesOwn (model X.prog X.w) X.A X.env X.xe) (hc : X.calm = true) (hi : PI X tg iter (liftI T W ri)) (hg : PG X tg (liftG T js g)) (hb : PSs X a (liftS T W s)) (hs : ∀ x, foldedSetIterable iter X.env x = pure x := by intro _; rfl) : PS X (.For tg iter a [] pos) (liftS T W (sFor ri g s)) :=
  (ps_for hp hc hi hg hb hs).imp ls_for
theorem qts_nil : PTs X [] (liftT T W dYes) := pts_nil.imp lt_yes
theorem qe_lc {elt : Expr} {ifs : List Expr} {scope : Scope} (own : List (Str × Nat)) (fz : List Nat) {rt : RT} {re : RE} (hc : X.calm = true) (hN : X.N.Nodup) (hi : PI X tg iter (liftI T W ri)) (ok : BlkOk X.N X.env.scope scope own) (hj : ∀ j ∈ js, j ∈ own.map (·.2))
    (hg : ∀ (s : Shared) (H : Hp) (C : Addr) (cl : List (Str × Addr)) (fp : List Addr), PG (X.blk s H scope (compEnvC scope cl C X.env) fp) tg (liftG T js g)) (ht : ∀ (s : Shared) (H : Hp) (C : Addr) (cl : List (Str × Addr)) (fp : List Addr), PTs (X.blk s H scope (compEnvC scope cl C X.env) fp) ifs (liftT T W0 rt))
    (he : ∀ (s : Shared) (H : Hp) (C : Addr) (cl : List (Str × Addr)) (fp : List Addr), PE (X.blk s H scope (compEnvC scope cl C X.env) fp) elt (liftE T W0 re)) (hs : ∀ x, foldedSetIterable iter X.env x = pure x := by intro _; rfl) :
    PE X (.ListComp elt [⟨tg, iter, ifs, 0⟩] scope pos) (liftE T W (dLc ri fz (own.map (·.2)) g rt re)) := (pe_lc hc hN hi ok hg ht he hs).imp (le_lc hj)
theorem qs_setLc (i : Nat) {y : Str} {py spos : Pos} {elt : Expr} {ifs : List Expr} {scope : Scope} (own : List (Str × Nat)) (fz : List Nat) {rt : RT} {re : RE} (hc : X.calm = true) (hN : X.N.Nodup) (hi : PI X tg iter (liftI T W ri)) (ok : BlkOk X.N X.env.scope scope own) (hj : ∀ j ∈ js, j ∈ own.map (·.2))
    (hg : ∀ (s : Shared) (H : Hp) (C : Addr) (cl : List (Str × Addr)) (fp : List Addr), PG (X.blk s H scope (compEnvC scope cl C X.env) fp) tg (liftG T js g)) (ht : ∀ (s : Shared) (H : Hp) (C : Addr) (cl : List (Str × Addr)) (fp : List Addr), PTs (X.blk s H scope (compEnvC scope cl C X.env) fp) ifs (liftT T W0 rt))
    (he : ∀ (s : Shared) (H : Hp) (C : Addr) (cl : List (Str × Addr)) (fp : List Addr), PE (X.blk s H scope (compEnvC scope cl C X.env) fp) elt (liftE T W0 re)) (hy : X.N[i]? = some y := by rfl) (hyl : X.env.scope.names.lookup y = some .local := by rfl)
    (hsw : swapsWith (.ListComp elt [⟨tg, iter, ifs, 0⟩] scope pos) (some (.Name y py)) spos.line X.env = pure true := by rfl) (hs : ∀ x, foldedSetIterable iter X.env x = pure x := by intro _; rfl) :
    PS X (.Assign [.Name y py] (.ListComp elt [⟨tg, iter, ifs, 0⟩] scope pos) spos) (liftS T W (sSet i (dLc ri fz (own.map (·.2)) g rt re))) :=
  (ps_setLc hc hN hy hyl hsw hi ok hg ht he hs).imp fun D σ H h => by
    have z := ls_set D σ H h
    exact le_lc hj σ H _ z
theorem qsi_pre {cn : Nat} {rp : RSI} (h1 : PS X st (liftS T W s)) (h2 : PSs X rest (liftSI T W cn rp)) : PSs X (st :: rest) (liftSI T W cn (iPre s rp)) := (pss_cons h1 h2).imp lsi_pre
theorem qsi_st {cn i : Nat} {rp : RSI} {f x : Str} {p : Addr} {op apos : Pos} (cc : SlX.SCls T.K (T.cl cn)) (t : SlX.Slot1 T.K (T.cl cn) f p i) (he : PE X e (liftE T W re)) (h2 : PSs X rest (liftSI T W cn rp)) (hK : X.K = T.K := by rfl) (hN : X.N[0]? = some x := by rfl)
    (hv : Vis X.env.scope x := by first | exact Or.inl rfl | exact Or.inr (Or.inl rfl) | exact Or.inr (Or.inr rfl)) (hd : (x == ("__debug__" : Str)) = false := by decide) (hcd : (x == ("__classdict__" : Str)) = false := by decide) (hs : swapsWith e (some (.Attribute (.Name x op) f apos)) pos.line X.env = pure false := by rfl) :
    PSs X (.Assign [.Attribute (.Name x op) f apos] e pos :: rest) (liftSI T W cn (fun st acc x ρ => acc.length = i ∧ iSt re rp st acc x ρ)) := (pss_cons (SlX.ps_sl (pe_var hN hv hd hcd) he hs) h2).imp (by rw [hK]; exact lsi_st cc t)
theorem qsi_end {cn : Nat} : PSs X [] (liftSI T W cn iEnd) := pss_nil.imp lsi_end
end
end Dc
set_option maxHeartbeats 1000000
namespace Dc
open PySem L2 PyProof.Rows PySem.W

mutual
def py : D → PyData
  | .non => .none
  | .bl b => .bool b
  | .int i => .int i
  | .str x => .str x
  | .tup xs => .tuple (pys xs)
  | .lst xs => .list (pys xs)
  | _ => .none
def pys : List D → List PyData
  | [] => []
  | x :: xs => py x :: pys xs
end
mutual
def flat : D → Bool
  | .non => true
  | .bl _ => true
  | .int _ => true
  | .str _ => true
  | .tup xs => flats xs
  | .lst xs => flats xs
  | _ => false
def flats : List D → Bool
  | [] => true
  | x :: xs => flat x && flats xs
end
mutual
theorem Den.dp {T : Tx} {c : Dx T} {B H : Hp} (ex : Ex B H) : ∀ {v : V} {d : D}, Den c B v d → flat d = true → Dp T.K H v (py d)
  | _, _, .non, _ => .non
  | _, _, .bl b, _ => .bl b
  | _, _, .int i, _ => .int i
  | _, _, .str x, _ => .str x
  | _, _, .tup h r, f => .tup (ex.sqT h) (Dens.dp ex r f)
  | _, _, .lst h n r, f => .lst (.inl (.inl (ex _ _ h))) (Dens.dp ex r f)
  | _, _, .dic _ _ _, f => Bool.noConfusion (show false = true from f)
  | _, _, .obj _ _, f => Bool.noConfusion (show false = true from f)
  | _, _, .ptr _, f => Bool.noConfusion (show false = true from f)
  | _, _, .adr, f => Bool.noConfusion (show false = true from f)
  | _, _, .clo _, f => Bool.noConfusion (show false = true from f)
  | _, _, .scr _, f => Bool.noConfusion (show false = true from f)
  | _, _, .tpz _ _ _ _, f => Bool.noConfusion (show false = true from f)
theorem Dens.dp {T : Tx} {c : Dx T} {B H : Hp} (ex : Ex B H) : ∀ {vs : List V} {ds : List D}, Dens c B vs ds → flats ds = true → DpAll T.K H vs (pys ds)
  | _, _, .nil, _ => .nil
  | _, _, .cons h r, f => by
    have f : (flat _ && flats _) = true := f
    rw [Bool.and_eq_true] at f
    exact .cons (Den.dp ex h f.1) (Dens.dp ex r f.2)
end
theorem Tm.dp {T : Tx} {c : Dx T} {B H : Hp} {v : V} {d : D} (ex : Ex B H) (h : Tm c B H v d) (f : flat d = true) : Dp T.K H v (py d) := by
  cases h with
  | den h => exact h.dp ex f
  | own _ h =>
    cases h with
    | lst h r => exact .lst (.inl (.inl h)) (r.dp ex f)
    | dic _ _ => cases f
def okEq (d : D) : Prop := flat d = true ∧ SeqAt.shaped (py d) = true
def eqD (a b : D) : Bool := PyData.eqv (py a) (py b)

def fAdd : F2
  | .int i, .int j, k => k (.int (i + j)) .p
  | .str a, .str b, k => a.length + b.length ≤ sizeLine ∧ k (.str (a ++ b)) .p
  | .lst a, .lst b, k => a.length + b.length ≤ sizeLine ∧ k (.lst (a ++ b)) .f
  | .tup a, .tup b, k => a.length + b.length ≤ sizeLine ∧ k (.tup (a ++ b)) .p
  | _, _, _ => False
def fSub : F2
  | .int i, .int j, k => k (.int (i - j)) .p
  | _, _, _ => False
def fMul : F2
  | .int i, .int j, k => IntMulOk i j ∧ k (.int (i * j)) .p
  | .lst a, .int n, k => -(2 ^ 63) ≤ n ∧ n < 2 ^ 63 ∧ a.length * n.toNat ≤ sizeLine ∧ k (.lst (List.replicate n.toNat a).flatten) .f
  | _, _, _ => False
def fMod : F2
  | .int i, .int j, k => 0 < j ∧ k (.int (i % j)) .p
  | _, _, _ => False
def fPow : F2
  | .int i, .int j, k => 0 ≤ j ∧ j ≤ 1000000 ∧ i.natAbs < 2 ^ 64 ∧ k (.int (i ^ j.toNat)) .p
  | _, _, _ => False
def fNeg : F1
  | .int i, k => k (.int (-i)) .p
  | _, _ => False
def fOrd (p : Int → Int → Bool) : F2
  | .int i, .int j, k => k (.bl (p i j)) .p
  | _, _, _ => False
abbrev fLt : F2 := fOrd fun i j => decide (i < j)
abbrev fLe : F2 := fOrd fun i j => decide (i ≤ j)
abbrev fGt : F2 := fOrd fun i j => decide (j < i)
abbrev fGe : F2 := fOrd fun i j => decide (j ≤ i)
def fEq : F2 := fun a b k => okEq a ∧ okEq b ∧ k (.bl (eqD a b)) .p
def fNe : F2 := fun a b k => okEq a ∧ okEq b ∧ k (.bl (!eqD a b)) .p
def isNonD : D → Bool
  | .non => true
  | _ => false
def fIsN (g : Bool → Bool) : F2 := fun a b k => isNonD b = true ∧ k (.bl (g (isNonD a))) .p
def fIx : F2 := fun a b k => match b with
  | .int i => match a with
    | .lst xs => ∃ d, atI xs i = some d ∧ k d .p
    | .tup xs => ∃ d, atI xs i = some d ∧ k d .p
    | .str z => z.length ≤ sizeLine ∧ ∃ c, atI z.cps.toList i = some c ∧ k (.str ⟨#[c]⟩) .p
    | .scr ns => ∃ n, atI ns i = some n ∧ k (.int n) .p
    | _ => False
  | _ => False
theorem Dens.at_ {T : Tx} {c : Dx T} {B : Hp} {vs : List V} {ds : List D} (r : Dens c B vs ds) {i : Int} {d : D} (h : atI ds i = some d) : ∃ v, atI vs i = some v ∧ Den c B v d := by
  unfold atI at h ⊢
  rw [← r.length] at h
  cases e : ixN vs.length i with
  | none => rw [e] at h; cases h
  | some j =>
    rw [e] at h
    obtain ⟨v, hv, n⟩ := r.get (show ds[j]? = some d from h)
    exact ⟨v, hv, n⟩
section
variable {X : Cx} {T : Tx}
theorem Tm.isNon {c : Dx T} {B H : Hp} {v : V} {d : D} (h : Tm c B H v d) : decide (v = .non) = isNonD d := by
  cases h with
  | den h => cases h <;> simp [isNonD]
  | own _ h => cases h <;> simp [isNonD]
theorem opd_add (hK : X.K = T.K := by rfl) : OpR X (binaryOp .Add) (r2D T fAdd) := by
  rintro pins s σ H x y v u Q I rx ry ⟨c, B, d1, d2, k, ex, t1, t2, h, q⟩
  unfold fAdd at h
  split at h
  · have e1 := t1.int_; have e2 := t2.int_; subst e1 e2
    exact op_add pins s σ H _ _ v u Q I rx ry ⟨_, _, rfl, rfl, q _ _ _ _ h (Res.int _)⟩
  · have e1 := t1.str_; have e2 := t2.str_; subst e1 e2
    exact op_add_str pins s σ H _ _ v u Q I rx ry ⟨_, _, rfl, rfl, h.1, q _ _ _ _ h.2 (Res.str _)⟩
  · obtain ⟨a, xs, rfl, h1, r1⟩ := t1.list ex
    obtain ⟨b, ys, rfl, h2, r2⟩ := t2.list ex
    exact op_cat pins s σ H _ _ v u Q I rx ry ⟨_, _, _, _, rfl, rfl, h1, h2, by rw [r1.length, r2.length]; exact h.1, fun p hp => q _ _ _ _ h.2 (Res.newL ex hp (r1.append r2))⟩
  · obtain ⟨a, xs, rfl, h1, r1⟩ := t1.tuple ex
    obtain ⟨b, ys, rfl, h2, r2⟩ := t2.tuple ex
    refine op_catA pins s σ H _ _ v u Q I rx ry ⟨_, _, _, _, rfl, rfl, by rw [hK]; exact h1, by rw [hK]; exact h2, by rw [r1.length, r2.length]; exact h.1, fun e => ?_, fun _ e => ?_, fun _ _ p hp => q _ _ _ _ h.2 (Res.newT ex hp (r1.append r2))⟩
    · subst e
      cases r1
      cases t2 with
      | den t2 => exact q _ _ _ _ h.2 (Res.den (by simpa using t2))
      | own _ t2 => cases t2
    · subst e
      cases r2
      cases t1 with
      | den t1 => exact q _ _ _ _ h.2 (Res.den (by simpa using t1))
      | own _ t1 => cases t1
  · exact h.elim
theorem opd_sub : OpR X (binaryOp .Sub) (r2D T fSub) := by
  rintro pins s σ H x y v u Q I rx ry ⟨c, B, d1, d2, k, ex, t1, t2, h, q⟩
  unfold fSub at h
  split at h
  · have e1 := t1.int_; have e2 := t2.int_; subst e1 e2
    exact op_sub pins s σ H _ _ v u Q I rx ry ⟨_, _, rfl, rfl, q _ _ _ _ h (Res.int _)⟩
  · exact h.elim
theorem Dens.rep {c : Dx T} {B : Hp} {vs : List V} {ds : List D} (r : Dens c B vs ds) : ∀ n : Nat, Dens c B (List.replicate n vs).flatten (List.replicate n ds).flatten
  | 0 => .nil
  | n + 1 => by
    rw [List.replicate_succ, List.replicate_succ, List.flatten_cons, List.flatten_cons]
    exact r.append (r.rep n)
theorem opd_mul : OpR X (binaryOp .Mult) (r2D T fMul) := by
  rintro pins s σ H x y v u Q I rx ry ⟨c, B, d1, d2, k, ex, t1, t2, h, q⟩
  unfold fMul at h
  split at h
  · have e1 := t1.int_; have e2 := t2.int_; subst e1 e2
    refine (opI (f := binaryOp .Mult) (C := IntMulOk) (g := fun i j => i * j) fun _ _ _ _ _ _ _ hc q => mul_int q hc) pins s σ H _ _ v u Q I rx ry ⟨_, _, rfl, rfl, h.1, q _ _ _ _ h.2 (Res.int _)⟩
  · have e2 := t2.int_; subst e2
    obtain ⟨a, xs, rfl, h1, r1⟩ := t1.list ex
    exact op_rep pins s σ H _ _ v u Q I rx ry ⟨_, _, _, rfl, rfl, h1, h.1, h.2.1, by rw [r1.length]; exact h.2.2.1, fun p hp => q _ _ _ _ h.2.2.2 (Res.newL ex hp (r1.rep _))⟩
  · exact h.elim
theorem opd_mod : OpR X (binaryOp .Mod) (r2D T fMod) := by
  rintro pins s σ H x y v u Q I rx ry ⟨c, B, d1, d2, k, ex, t1, t2, h, q⟩
  unfold fMod at h
  split at h
  · have e1 := t1.int_; have e2 := t2.int_; subst e1 e2
    exact op_mod pins s σ H _ _ v u Q I rx ry ⟨_, _, rfl, rfl, h.1, q _ _ _ _ h.2 (Res.int _)⟩
  · exact h.elim
theorem opd_pow : OpR X (binaryOp .Pow) (r2D T fPow) := by
  rintro pins s σ H x y v u Q I rx ry ⟨c, B, d1, d2, k, ex, t1, t2, h, q⟩
  unfold fPow at h
  split at h
  · have e1 := t1.int_; have e2 := t2.int_; subst e1 e2
    exact op_pow pins s σ H _ _ v u Q I rx ry ⟨_, _, rfl, rfl, ⟨h.1, h.2.1, h.2.2.1⟩, q _ _ _ _ h.2.2.2 (Res.int _)⟩
  · exact h.elim
theorem opd_neg : UnR X (unaryOp .USub) (r1D T fNeg) := by
  rintro pins s σ H x v Q I rx ⟨c, B, d1, k, ex, t1, h, q⟩
  unfold fNeg at h
  split at h
  · have e1 := t1.int_; subst e1
    exact un_neg pins s σ H _ v Q I rx ⟨_, rfl, q _ _ _ _ h (Res.int _)⟩
  · exact h.elim
theorem opd_ord {op : CmpOp} {p : Int → Int → Bool} (ho : OpR X (compareOp op) (rI0 fun i j => .bl (p i j))) : OpR X (compareOp op) (r2D T (fOrd p)) := by
  rintro pins s σ H x y v u Q I rx ry ⟨c, B, d1, d2, k, ex, t1, t2, h, q⟩
  unfold fOrd at h
  split at h
  · have e1 := t1.int_; have e2 := t2.int_; subst e1 e2
    exact ho pins s σ H _ _ v u Q I rx ry ⟨_, _, rfl, rfl, q _ _ _ _ h (Res.bl _)⟩
  · exact h.elim
theorem opd_lt : OpR X (compareOp .Lt) (r2D T fLt) := opd_ord op_lt
theorem opd_le : OpR X (compareOp .LtE) (r2D T fLe) := opd_ord op_le
theorem opd_gt : OpR X (compareOp .Gt) (r2D T fGt) := opd_ord op_gt
theorem opd_ge : OpR X (compareOp .GtE) (r2D T fGe) := opd_ord op_ge
theorem opd_eqH {n : Nat} (hr : L2H.RoomH n X.A) (hK : X.K = T.K := by rfl) : OpR X (compareOp .Eq) (r2D T fEq) := by
  rintro pins s σ H x y v u Q I rx ry ⟨c, B, d1, d2, k, ex, t1, t2, ⟨h1, h2, h⟩, q⟩
  exact op_eqD (by have := hr.un; omega) pins s σ H _ _ v u Q I rx ry ⟨_, _, by rw [hK]; exact t1.dp ex h1.1, by rw [hK]; exact t2.dp ex h2.1, h1.2, h2.2, q _ _ _ _ h (Res.bl _)⟩
theorem opd_eq {n : Nat} (hr : Room n X.A) (hK : X.K = T.K := by rfl) : OpR X (compareOp .Eq) (r2D T fEq) := opd_eqH (L2H.roomH_of hr) hK
theorem opd_ne {n : Nat} (hr : Room n X.A) (hK : X.K = T.K := by rfl) : OpR X (compareOp .NotEq) (r2D T fNe) := by
  rintro pins s σ H x y v u Q I rx ry ⟨c, B, d1, d2, k, ex, t1, t2, ⟨h1, h2, h⟩, q⟩
  exact op_neD hr.units pins s σ H _ _ v u Q I rx ry ⟨_, _, by rw [hK]; exact t1.dp ex h1.1, by rw [hK]; exact t2.dp ex h2.1, h1.2, h2.2, q _ _ _ _ h (Res.bl _)⟩
theorem isNonD_eq {d : D} (h : isNonD d = true) : d = .non := by cases d <;> first | rfl | cases h
theorem opd_is : OpR X (compareOp .Is) (r2D T (fIsN fun b => b)) := by
  rintro pins s σ H x y v u Q I rx ry ⟨c, B, d1, d2, k, ex, t1, t2, ⟨h1, h⟩, q⟩
  have e := isNonD_eq h1; subst e
  have e2 := t2.non_; subst e2
  exact op_isN pins s σ H _ _ v u Q I rx ry ⟨rfl, by rw [t1.isNon]; exact q _ _ _ _ h (Res.bl _)⟩
theorem opd_isnot : OpR X (compareOp .IsNot) (r2D T (fIsN not)) := by
  rintro pins s σ H x y v u Q I rx ry ⟨c, B, d1, d2, k, ex, t1, t2, ⟨h1, h⟩, q⟩
  have e := isNonD_eq h1; subst e
  have e2 := t2.non_; subst e2
  exact op_notN pins s σ H _ _ v u Q I rx ry ⟨rfl, by rw [t1.isNon]; exact q _ _ _ _ h (Res.bl _)⟩
theorem opd_ix (hK : X.K = T.K := by rfl) : IxR X (r2D T fIx) := by
  rintro value slice pins s σ H x y v u Q I rx ry ⟨c, B, d1, d2, k, ex, t1, t2, h, q⟩ hs
  unfold fIx at h
  split at h
  · have e2 := t2.int_; subst e2
    split at h
    · obtain ⟨a, xs, rfl, h1, r1⟩ := t1.list ex
      obtain ⟨d, hd, h⟩ := h
      obtain ⟨w, hw, n⟩ := r1.at_ hd
      exact ix_list value slice pins s σ H _ _ v u Q I rx ry ⟨a, xs, _, w, rfl, rfl, .inl (.inl h1), hw, q _ _ _ _ h (Res.den n)⟩ hs
    · obtain ⟨a, xs, rfl, h1, r1⟩ := t1.tuple ex
      obtain ⟨d, hd, h⟩ := h
      obtain ⟨w, hw, n⟩ := r1.at_ hd
      exact ix_tup value slice pins s σ H _ _ v u Q I rx ry ⟨a, xs, _, w, rfl, rfl, by rw [hK]; exact h1, hw, q _ _ _ _ h (Res.den n)⟩ hs
    · have e1 := t1.str_; subst e1
      obtain ⟨hz, e, he, h⟩ := h
      exact ix_str value slice pins s σ H _ _ v u Q I rx ry ⟨_, _, e, rfl, rfl, hz, he, q _ _ _ _ h (Res.str _)⟩ hs
    · rename_i ns
      obtain ⟨a, rfl, h1⟩ := t1.scr_ ex
      obtain ⟨n, hn, h⟩ := h
      refine ix_list value slice pins s σ H _ _ v u Q I rx ry ⟨a, _, _, .int n, rfl, rfl, by rw [hK]; exact h1, ?_, q _ _ _ _ h (Res.int _)⟩ hs
      unfold atI at hn ⊢
      rw [List.length_map]
      cases e : ixN _ _ with
      | none => rw [e] at hn; cases hn
      | some j =>
        rw [e] at hn
        show (List.map V.int _)[j]? = some (V.int n)
        have hn : ns[j]? = some n := hn
        rw [List.getElem?_map, hn]; rfl
    · exact h.elim
  · exact h.elim
end

abbrev RO := XQ → Env → (Option Int → Env → Prop) → Prop
abbrev FS := D → Option Int → Option Int → (D → Tag → Prop) → Prop
def oNo : RO := fun _ ρ Q => Q none ρ
def intOf : D → (Int → Prop) → Prop
  | .int i, q => q i
  | _, _ => False
def oSo (t : RE) : RO := fun x ρ Q => t x ρ fun d _ ρ1 => intOf d fun i => Q (some i) ρ1
def dSlice (f : FS) (ta : RE) (tl th : RO) : RE := fun x ρ Q => ta x ρ fun d _ ρ1 => tl x ρ1 fun l ρ2 => th x ρ2 fun u ρ3 => f d l u fun d g => Q d g ρ3
def liftO (T : Tx) (W : WX) (t : RO) : TO := fun σ H Q' => ∃ c : Dx T, ∃ B ρ x Q, Rel c σ B H ρ ∧ XW c W B x ∧ t x ρ Q ∧
  ∀ l ρ' B' H', Q l ρ' → Ex B B' → ExP c H H' → Rel c σ B' H' ρ' → Q' l H'
def cutD (xs : List D) (lo hi : Option Int) : List D := (xs.drop (HT.sIx xs.length 0 lo)).take (HT.sIx xs.length xs.length hi - HT.sIx xs.length 0 lo)
def fSlice : FS
  | .lst xs, l, u, k => k (.lst (cutD xs l u)) .f
  | .tup xs, l, u, k => k (.tup (cutD xs l u)) .p
  | .str z, l, u, k => z.length ≤ sizeLine ∧ k (.str (cutS z l u)) .p
  | .scr ns, l, u, k => k (.lst (cutD (ns.map D.int) l u)) .f
  | _, _, _, _ => False
def rSD (T : Tx) (f : FS) : V → Option Int → Option Int → Hp → VK → Prop := fun v l u H Q' => ∃ (c : Dx T) (B : Hp) (d : D) (k : D → Tag → Prop), Ex B H ∧ Tm c B H v d ∧ f d l u k ∧ ∀ d g v H', k d g → Res c B H H' v d g → Q' v H'
section
variable {X : Cx} {T : Tx} {W : WX}
theorem lo_no : ∀ σ H Q', liftO T W oNo σ H Q' → tNoPart σ H Q' := by
  rintro σ H Q' ⟨c, B, ρ, x, Q, R, X, h, q⟩
  exact q _ _ B H h Ex.rfl' ExP.rfl' R
theorem lo_so {t : RE} : ∀ σ H Q', liftO T W (oSo t) σ H Q' → tPart (liftE T W t) σ H Q' := by
  rintro σ H Q' ⟨c, B, ρ, x, Q, R, X, h, q⟩
  refine ⟨c, B, ρ, x, _, R, X, h, fun d g ρ1 v B1 H1 h1 e1 k1 R1 t1 => ?_⟩
  cases d <;> first | exact h1.elim | skip
  case int i =>
    have e := (t1.tm R1).int_; subst e
    exact ⟨i, rfl, q _ _ B1 H1 h1 e1 k1 R1⟩
theorem le_slice {f : FS} {ta : RE} {tl th : RO} : ∀ σ H Q', liftE T W (dSlice f ta tl th) σ H Q' → tSl (rSD T f) (liftE T W ta) (liftO T W tl) (liftO T W th) σ H Q' := by
  rintro σ H Q' ⟨c, B, ρ, x, Q, R, X, h, q⟩
  refine ⟨c, B, ρ, x, _, R, X, h, fun d g ρ1 v B1 H1 h1 e1 k1 R1 t1 => ⟨c, B1, ρ1, x, _, R1, X.up e1, h1, fun l ρ2 B2 H2 h2 e2 k2 R2 => ⟨c, B2, ρ2, x, _, R2, X.up (e1.trans e2), h2, fun u ρ3 B3 H3 h3 e3 k3 R3 => ?_⟩⟩⟩
  refine ⟨c, B3, d, _, R3.ex, (t1.tm R1).mono (e2.trans e3) (k2.trans k3), h3, fun d g v H' hq r => ?_⟩
  exact res_to R3 (fun d g ρ' v B' H' hQ e k R' t => q d g ρ' v B' H' hQ ((e1.trans (e2.trans e3)).trans e) ((k1.trans (k2.trans k3)).trans k) R' t) hq r
theorem Dens.cut {c : Dx T} {B : Hp} {vs : List V} {ds : List D} (r : Dens c B vs ds) (l u : Option Int) : Dens c B (cutV vs l u) (cutD ds l u) := by
  unfold cutV cutD
  rw [r.length]
  exact (r.drop _).take _
theorem cut_all {α : Type} {xs : List α} {l u : Nat} (h1 : l = 0) (h2 : u = xs.length) : (xs.drop l).take (u - l) = xs := by
  subst h1 h2; simp
theorem sld (hK : X.K = T.K := by rfl) : L2.SlR X (rSD T fSlice) := by
  rintro pins s σ H x v vl vu lo hi sl Q I rx hs pl pu ⟨c, B, d, k, ex, t, h, q⟩
  unfold fSlice at h
  split at h
  · obtain ⟨a, xs, rfl, h1, r1⟩ := t.list ex
    exact sl_list pins s σ H _ v vl vu lo hi sl Q I rx hs pl pu ⟨a, xs, rfl, .inl (.inl h1), fun p hp => q _ _ _ _ h (Res.newL ex hp (r1.cut _ _))⟩
  · obtain ⟨a, xs, rfl, h1, r1⟩ := t.tuple ex
    refine sl_tupA pins s σ H _ v vl vu lo hi sl Q I rx hs pl pu ⟨a, xs, rfl, by rw [hK]; exact h1, fun e => ?_, fun _ p hp => q _ _ _ _ h (Res.newT ex hp (r1.cut _ _))⟩
    cases t with
    | den t =>
      refine q _ _ _ _ h (Res.den ?_)
      unfold cutD
      rw [r1.length] at e
      rw [cut_all e.1 e.2]; exact t
    | own _ t => cases t
  · have e1 := t.str_; subst e1
    exact sl_str pins s σ H _ v vl vu lo hi sl Q I rx hs pl pu ⟨_, rfl, h.1, q _ _ _ _ h.2 (Res.str _)⟩
  · obtain ⟨a, rfl, h1⟩ := t.scr_ ex
    exact sl_list pins s σ H _ v vl vu lo hi sl Q I rx hs pl pu ⟨a, _, rfl, by rw [hK]; exact h1, fun p hp => q _ _ _ _ h (Res.newL ex hp ((Dens.ints _).cut _ _))⟩
  · exact h.elim
variable {e a : Expr} {re : RE} {rl rh : RO} {lo hi : Option Expr} {pos p2 : Pos}
theorem qo_no : PO X none (liftO T W oNo) := ⟨fun pins s σ H Q I h => po_none.run pins s σ H Q I (lo_no σ H Q h)⟩
theorem qo_so (h : PE X e (liftE T W re)) : PO X (some e) (liftO T W (oSo re)) := ⟨fun pins s σ H Q I hw => (po_some h).run pins s σ H Q I (lo_so σ H Q hw)⟩
theorem qe_slice (he : PE X e (liftE T W re)) (hl : PO X lo (liftO T W rl)) (hu : PO X hi (liftO T W rh)) (hK : X.K = T.K := by rfl) : PE X (.Subscript e (.Slice lo hi none p2) pos) (liftE T W (dSlice fSlice re rl rh)) := (pe_slice (sld hK) he hl hu).imp le_slice
end
end Dc
set_option maxHeartbeats 1000000
namespace Dc
open PySem L2 PyProof.Rows PySem.W

def keyD : L2.Key → D
  | .inl i => .int i
  | .inr x => .str x
def toKey : D → Option L2.Key
  | .int i => some (.inl i)
  | .str x => some (.inr x)
  | _ => none
def valD (kvs : List (L2.Key × D)) (k : L2.Key) : Option D := (kvs.find? fun kv => decide (kv.1 = k)).map (·.2)
def putD (kvs : List (L2.Key × D)) (k : L2.Key) (v : D) : List (L2.Key × D) :=
  if (kvs.any fun kv => decide (kv.1 = k)) = true then kvs.map (fun kv => if kv.1 = k then (kv.1, v) else kv) else kvs ++ [(k, v)]
def keysD (kvs : List (L2.Key × D)) : List D := kvs.map fun kv => keyD kv.1
section
variable {T : Tx} {c : Dx T} {B H : Hp}
theorem DenK.val {xs : List (L2.Key × V)} {ds : List (L2.Key × D)} (r : DenK c B xs ds) (k : L2.Key) : (valV xs k = none ∧ valD ds k = none) ∨ ∃ v d, valV xs k = some v ∧ valD ds k = some d ∧ Den c B v d := by
  induction xs generalizing ds with
  | nil => cases r; exact .inl ⟨rfl, rfl⟩
  | cons p xs ih =>
    cases r with
    | @cons key v d _ ds h r =>
      by_cases e : key = k
      · exact .inr ⟨v, d, by simp [valV, e], by simp [valD, e], h⟩
      · rcases ih r with ⟨h1, h2⟩ | ⟨v', d', h1, h2, n⟩
        · exact .inl ⟨by simp [valV, e] at h1 ⊢; exact h1, by simp [valD, e] at h2 ⊢; exact h2⟩
        · exact .inr ⟨v', d', by simp [valV, e] at h1 ⊢; exact h1, by simp [valD, e] at h2 ⊢; exact h2, n⟩
theorem DenK.any_ {xs : List (L2.Key × V)} {ds : List (L2.Key × D)} (r : DenK c B xs ds) (k : L2.Key) : (xs.any fun kv => decide (kv.1 = k)) = ds.any fun kv => decide (kv.1 = k) := by
  induction xs generalizing ds with
  | nil => cases r; rfl
  | cons p xs ih => cases r with | cons h r => simp [ih r]
theorem DenK.mapSet {xs : List (L2.Key × V)} {ds : List (L2.Key × D)} (r : DenK c B xs ds) (k : L2.Key) {v : V} {d : D} (n : Den c B v d) :
    DenK c B (xs.map fun kv => if kv.1 = k then (kv.1, v) else kv) (ds.map fun kv => if kv.1 = k then (kv.1, d) else kv) := by
  induction xs generalizing ds with
  | nil => cases r; exact .nil
  | cons p xs ih =>
    cases r with
    | @cons key v' d' _ ds h r =>
      by_cases e : key = k
      · simp only [List.map_cons, e, if_true]; exact .cons n (ih r)
      · simp only [List.map_cons, e, if_false]; exact .cons h (ih r)
theorem DenK.app {xs ys : List (L2.Key × V)} {ds es : List (L2.Key × D)} (r : DenK c B xs ds) (g : DenK c B ys es) : DenK c B (xs ++ ys) (ds ++ es) := by
  induction xs generalizing ds with
  | nil => cases r; exact g
  | cons p xs ih => cases r with | cons h r => exact .cons h (ih r)
theorem DenK.put {xs : List (L2.Key × V)} {ds : List (L2.Key × D)} (r : DenK c B xs ds) (k : L2.Key) {v : V} {d : D} (n : Den c B v d) : DenK c B (putK xs k v) (putD ds k d) := by
  unfold putK putD
  rw [r.any_ k]
  split
  · exact r.mapSet k n
  · exact r.app (.cons n .nil)
theorem Den.key (k : L2.Key) : Den c B (kV k) (keyD k) := by
  cases k with
  | inl i => exact .int i
  | inr x => exact .str x
theorem DenK.keys {xs : List (L2.Key × V)} {ds : List (L2.Key × D)} (r : DenK c B xs ds) : Dens c B (xs.map fun kv => kV kv.1) (keysD ds) := by
  induction xs generalizing ds with
  | nil => cases r; exact .nil
  | cons p xs ih => cases r with | cons h r => exact .cons (Den.key _) (ih r)
theorem Tm.key {v : V} {d : D} {k : L2.Key} (h : Tm c B H v d) (e : toKey d = some k) : v = kV k := by
  cases d <;> first | cases e | skip
  · exact h.int_
  · exact h.str_
theorem Tm.dictR {v : V} {ds : List (L2.Key × D)} (h : Tm c B H v (.dic ds)) (ex : Ex B H) : ∃ a xs, v = .ref a ∧ Rd H a (.dK xs) ∧ DenK c B xs ds := by
  obtain ⟨a, xs, e, h, r⟩ := h.dict ex
  exact ⟨a, xs, e, .inl h, r⟩
end
theorem tail_any {prog : Program} {w : World} {A : Around} {E : Value → Shared → Prop} {s : Shared} {value slice : Expr} {o i : Value} {tn id : String} {Q : Value → Shared → Prop} (hT : s.TypeIs o tn)
    (hl : typeLookup (.type tn) "__getitem__" = pure (some (.builtin id))) (h : wpAny (model prog w) A (getItem o i) Q E s) (hs : subscripted slice false o i = operate [o, i] (getItem o i)) : wpAny (model prog w) A (subscriptTail value slice o i) Q E s := by
  unfold subscriptTail
  refine wpAny_bind ?_
  rw [getitemInPython_of_ne hT.not_modules]
  refine wpAny_bind (wpAny_specialOf hT hl ?_)
  have go : wpAny (model prog w) A (subscripted slice false o i) (fun r s₃ => wpAny (model prog w) A (letTemporaryGo value o r >>= fun _ => pure r) Q E s₃) E s := by
    rw [hs]
    exact wpAny_operating (wpAny_mono h (fun r s₃ h₃ => wpAny_bind (wpAny_letTemporaryGo (wpAny_pure h₃))) fun _ _ x => x)
  first
    | exact wpAny_bind go
    | exact wpAny_pure (wpAny_bind go)
    | exact wpAny_bind (wpAny_pure (wpAny_bind go))
def fIxA : F2 := fun a b k => match a with
  | .dic kvs => ∃ key d, toKey b = some key ∧ valD kvs key = some d ∧ k d .p
  | a => fIx a b k
section
variable {X : Cx} {T : Tx}
theorem opd_ixAH {n : Nat} (hr : L2H.RoomH n X.A) (hK : X.K = T.K := by rfl) : IxR X (r2D T fIxA) := by
  rintro value slice pins s σ H x y v u Q I rx ry ⟨c, B, d1, d2, k, ex, t1, t2, h, q⟩ hs
  unfold fIxA at h
  split at h
  · obtain ⟨key, d, ek, hv, h⟩ := h
    obtain ⟨a, xs, rfl, h1, r1⟩ := t1.dictR ex
    have ey := t2.key ek; subst ey
    rcases r1.val key with ⟨_, h2⟩ | ⟨w, d', h2, h3, n⟩
    · rw [hv] at h2; cases h2
    · rw [hv] at h3; cases h3
      obtain rfl : v = Value.ref a := rx
      have g : DGet H a (kV key) (some w) := .inl ⟨xs, key, h1, rfl, h2.symm⟩
      exact tail_any (dict_typeIs I g) PySem.F.slot_dict_getitem.lookup (d_getItem (by have := hr.un; omega) I g ry fun w' s3 I3 rw' => ⟨w, H, I3, rw', q _ _ _ _ h (Res.den n)⟩) hs
  · exact opd_ix hK value slice pins s σ H x y v u Q I rx ry ⟨c, B, d1, d2, k, ex, t1, t2, h, q⟩ hs
theorem opd_ixA {n : Nat} (hr : Room n X.A) (hK : X.K = T.K := by rfl) : IxR X (r2D T fIxA) := opd_ixAH (L2H.roomH_of hr) hK
end

section
variable {T : Tx} {c : Dx T} {σ : L2.St} {B H : Hp} {ρ : Env}
theorem Rel.putOwn (R : Rel c σ B H ρ) {i : Nat} {a : Addr} {d d' : D} {o : HO} (h1 : σ[i]? = some (some (V.ref a))) (h2 : ρ[i]? = some (Sl.own d)) (h : OwnAt c B (upd H a o) a d') : Rel c σ B (upd H a o) (ρ.set i (.own d')) := by
  obtain ⟨m, ow⟩ := R.ownB h1 h2
  have hi : i < ρ.length := (List.getElem?_eq_some_iff.mp h2).1
  obtain ⟨ou, lou, hou⟩ := ow.thereL
  obtain ⟨o1, lo1, ho1⟩ := h.thereL
  have eo : o1 = o := by rw [upd_same] at ho1; exact (Option.some.inj ho1).symm
  refine ⟨fun b u hb => ?_, R.pail.put hou m.p (by rw [← eo]; exact lo1.nt) lou, fun b u hn hb => ?_, fun b hb => ?_, by simp [R.len], fun j u s g1 g2 => ?_, fun j k b x y a1 a2 a3 a4 => ?_⟩
  · rw [upd_ne (ne_of_none hb m.b)]; exact R.ex b u hb
  · rw [upd_ne (ne_of_none hb m.h)]; exact R.ent b u hn hb
  · obtain ⟨⟨u, lu, hu⟩, z2, z3⟩ := R.fb b hb
    exact ⟨⟨u, lu, by rw [upd_ne (fun e => m.f (by rw [← e]; exact hb))]; exact hu⟩, z2, z3⟩
  · by_cases ji : i = j
    · subst ji
      rw [List.getElem?_set_self hi] at g2
      rw [h1] at g1; cases g1; cases g2
      exact .own m h
    · rw [List.getElem?_set_ne ji] at g2
      have z := R.sl j u s g1 g2
      cases z with
      | no => exact .no
      | sh z => exact .sh z
      | @own p e m' z =>
        have ne : p ≠ a := fun w => ji (R.dj i j a d e h1 h2 (by rw [← w]; exact g1) g2)
        exact .own m' (z.mono Ex.rfl' fun u hu => by rw [upd_ne ne]; exact hu)
  · have back : ∀ {j : Nat} {x : D}, (ρ.set i (.own d'))[j]? = some (Sl.own x) → ∃ x', ρ[j]? = some (Sl.own x') := fun {j x} w => by
      by_cases ji : i = j
      · subst ji; exact ⟨d, h2⟩
      · rw [List.getElem?_set_ne ji] at w; exact ⟨x, w⟩
    obtain ⟨x', b1⟩ := back a2
    obtain ⟨y', b2⟩ := back a4
    exact R.dj j k b x' y' a1 b1 a3 b2
end
def ownIn (ρ : Env) (i : Nat) (q : D → Prop) : Prop := match ρ[i]? with
  | some (.own d) => q d
  | _ => False
theorem ownIn_at {T : Tx} {c : Dx T} {σ : L2.St} {B H : Hp} {ρ : Env} {i : Nat} {q : D → Prop} (R : Rel c σ B H ρ) (h : ownIn ρ i q) : ∃ a d, σ[i]? = some (some (V.ref a)) ∧ ρ[i]? = some (Sl.own d) ∧ q d ∧ OwnAt c B H a d ∧ Mine c B a := by
  unfold ownIn at h
  split at h
  · rename_i d e
    have hi : i < σ.length := by rw [R.len]; exact (List.getElem?_eq_some_iff.mp e).1
    obtain ⟨o, ho⟩ : ∃ o, σ[i]? = some o := ⟨σ[i], by simp [hi]⟩
    have s := R.sl i o _ ho e
    cases s with
    | @own a _ m s => exact ⟨a, d, ho, e, h, s, m⟩
  · exact h.elim
abbrev FW := D → List D → (D → D → Prop) → Prop
def rWD (T : Tx) (f : FW) : V → List V → Hp → VK → Prop := fun v vs H Q' => ∃ (c : Dx T) (B : Hp) (a : Addr) (d : D) (ds : List D) (k : D → D → Prop), v = .ref a ∧ Ex B H ∧ OwnAt c B H a d ∧ Dens c B vs ds ∧ f d ds k ∧
  ∀ d' r v o, k d' r → OwnAt c B (upd H a o) a d' → Den c B v r → Q' v (upd H a o)
def isLst : D → Prop
  | .lst _ => True
  | _ => False
def sWr (i : Nat) (f : FW) (ta : RA) : RS := fun k ρ => ownIn ρ i fun d => isLst d ∧ ta k.ex ρ fun ds ρ1 => ownIn ρ1 i fun d => f d ds fun d' r => k.nx (ρ1.set i (.own d'))
section
variable {T : Tx} {W : WX} {f : FW} {ta : RA}
theorem isLst_ty {c : Dx T} {B H : Hp} {a : Addr} {d : D} (h : OwnAt c B H a d) (l : isLst d) : tyV T.K "list" (.ref a) H := by
  cases h with
  | lst h r => exact .inl ⟨rfl, _, .inl (.inl h)⟩
  | dic h r => exact l.elim
theorem wr_core {i : Nat} {c : Dx T} {σ : L2.St} {B H : Hp} {ρ : Env} {x : XQ} {Q : D → Env → Prop} {Q' : VK} (R : Rel c σ B H ρ) (X : XW c W B x) (h : ownIn ρ i fun d => isLst d ∧ ta x ρ fun ds ρ1 => ownIn ρ1 i fun d => f d ds fun d' r => Q r (ρ1.set i (.own d')))
    (q : ∀ r v ρ' B' H', Q r ρ' → Ex B B' → Rel c σ B' H' ρ' → Den c B' v r → Q' v H') : tBM T.K "list" (rWD T f) (tVar i) (liftA T W ta) σ H Q' := by
  obtain ⟨a, d, h1, h2, ⟨hl, h⟩, ow, m⟩ := ownIn_at R h
  refine ⟨.ref a, h1, isLst_ty ow hl, c, B, ρ, x, _, R, X, h, fun ds ρ1 vs B1 H1 g1 e1 k1 R1 t1 => ?_⟩
  obtain ⟨a', d1, g2, g3, g4, ow1, m1⟩ := ownIn_at R1 g1
  rw [h1] at g2
  injection g2 with g2; injection g2 with g2; injection g2 with g2
  subst g2
  exact ⟨c, B1, a, d1, ds, _, rfl, R1.ex, ow1, t1, g4, fun d' r v o hq ow2 n => q r v _ B1 _ hq e1 (R1.putOwn h1 g3 ow2) n⟩
theorem ls_wr {i : Nat} : ∀ D σ H, liftS T W (sWr i f ta) D σ H → tDrop (tBM T.K "list" (rWD T f) (tVar i) (liftA T W ta)) D σ H := by
  rintro D σ H ⟨c, B, ρ, k, R, X, h, n, r, bk, ct⟩
  exact wr_core (Q := fun _ => k.nx) R X h fun r v ρ' B' H' hq e R' _ => n ρ' σ B' H' hq e R'
end
def wApp : FW
  | .lst xs, [d], k => xs.length < sizeLine ∧ k (.lst (xs ++ [d])) .non
  | _, _, _ => False
section
variable {X : Cx} {T : Tx} {W : WX}
theorem mtd_app : MtR X "list.append" (rWD T wApp) := by
  rintro pins s σ H x xs v us Q I rx rxs ⟨c, B, a, d, ds, k, rfl, ex, ow, r, h, q⟩
  unfold wApp at h
  split at h
  · cases ow with
    | lst ha ra =>
      cases r with
      | cons n rr =>
        cases rr
        exact mt_append pins s σ H _ _ v us Q I rx rxs ⟨a, _, _, rfl, rfl, ha, by rw [ra.length]; exact h.1, q _ _ _ _ h.2 (.lst upd_same (ra.append (.cons n .nil))) .non⟩
  · exact h.elim
def putAt : D → D → D → (D → Prop) → Prop
  | .lst xs, .int i, d, k => ∃ j, ixN xs.length i = some j ∧ k (.lst (xs.set j d))
  | .dic kvs, b, d, k => ∃ key, toKey b = some key ∧ kvs.length < sizeLine ∧ k (.dic (putD kvs key d))
  | _, _, _, _ => False
def rPutD (T : Tx) : V → V → V → Hp → (Hp → Prop) → Prop := fun o i v H Q' => ∃ (c : Dx T) (B : Hp) (a : Addr) (d d2 d3 : D) (k : D → Prop), o = .ref a ∧ Ex B H ∧ OwnAt c B H a d ∧ Tm c B H i d2 ∧ Den c B v d3 ∧ putAt d d2 d3 k ∧
  ∀ d' u, k d' → OwnAt c B (upd H a u) a d' → Q' (upd H a u)
theorem psetd {n : Nat} (hr : Room n X.A) : PSet X (rPutD T) := by
  rintro pins s σ H o i v ov iv u Q I ro ri rv ⟨c, B, a, d, d2, d3, k, rfl, ex, ow, t2, n3, h, q⟩
  unfold putAt at h
  split at h
  · cases ow with
    | lst ha ra =>
      have e := t2.int_; subst e
      obtain ⟨j, hj, h⟩ := h
      exact set_list pins s σ H _ _ v ov iv u Q I ro ri rv ⟨a, _, _, j, rfl, rfl, ha, by rw [ra.length]; exact hj, q _ _ h (.lst upd_same (ra.set j n3))⟩
  · cases ow with
    | dic ha ra =>
      obtain ⟨key, ek, hl, h⟩ := h
      have e := t2.key ek; subst e
      obtain rfl : ov = Value.ref a := ro
      exact d_setItem (by have := hr.units; omega) I (.inl ⟨_, key, ha, rfl, by
        have : ∀ {xs : List (L2.Key × V)} {ds : List (L2.Key × D)}, DenK c B xs ds → xs.length = ds.length := fun r => r.length
        rw [this ra]; exact hl, rfl⟩) ri rv fun s3 I3 => ⟨_, I3, q _ _ h (.dic upd_same (ra.put key n3))⟩
  · exact h.elim
def sPut (i : Nat) (te ti : RE) : RS := fun k ρ => te k.ex ρ fun d g ρ1 => ownIn (leak d g ρ1) i fun _ => ti k.ex (leak d g ρ1) fun b _ ρ2 => ownIn ρ2 i fun o => putAt o b d fun o' => k.nx (ρ2.set i (.own o'))
theorem ls_put {i : Nat} {te ti : RE} : ∀ D σ H, liftS T W (sPut i te ti) D σ H → tAsg (liftE T W te) (gSub (tVar i) (liftE T W ti) (rPutD T)) D σ H := by
  rintro D σ H ⟨c, B, ρ, k, R, X, h, n, r, bk, ct⟩
  refine ⟨c, B, ρ, _, _, R, X, h, fun d g ρ1 v B1 H1 h1 e1 k1 R1 t1 => ?_⟩
  obtain ⟨B2, e2, R2, n2⟩ := leak_ok R1 t1
  obtain ⟨a, d0, s1, s2, h1, ow, m⟩ := ownIn_at R2 h1
  refine ⟨.ref a, s1, c, B2, _, _, _, R2, (X.up e1).up e2, h1, fun b gb ρ3 w B3 H3 h3 e3 k3 R3 t3 => ?_⟩
  obtain ⟨a', d1, s3, s4, h3, ow3, m3⟩ := ownIn_at R3 h3
  rw [s1] at s3
  injection s3 with s3; injection s3 with s3; injection s3 with s3
  subst s3
  exact ⟨c, B3, a, d1, b, d, _, rfl, R3.ex, ow3, t3.tm R3, n2.mono e3, h3, fun d' u hq ow4 => n _ σ B3 _ hq (e1.trans (e2.trans e3)) (R3.putOwn s1 s4 ow4)⟩
end
section
variable {X : Cx} {T : Tx} {W : WX} {e o : Expr} {es : List Expr} {re ro : RE} {rs : RA} {pos apos cpos : Pos}
theorem qe_dnew : PE X (.Dict [] [] pos) (liftE T W fun _ ρ Q => Q (.dic []) .f ρ) := pe_dnewK.imp fun σ H Q' ⟨c, B, ρ, x, Q, R, X, h, q⟩ p hp =>
  res_to R q h (Res.newD R.ex hp .nil)
theorem qs_wr (i : Nat) {x : Str} {np : Pos} {name : Str} {id : String} {f : FW} (slot : Slot "list" name id) (hty : typeOf (.builtin id) = pure (.type "method_descriptor")) (hm : MtR X id (rWD T f)) (ha : PA X (e :: es) (liftA T W rs)) (hK : X.K = T.K := by rfl) (hN : X.N[i]? = some x := by rfl)
    (hv : Vis X.env.scope x := by first | exact Or.inl rfl | exact Or.inr (Or.inl rfl) | exact Or.inr (Or.inr rfl)) (hd : (x == ("__debug__" : Str)) = false := by decide) (hcd : (x == ("__classdict__" : Str)) = false := by decide)
    (hbase : attributeBase (.Name x np) name X.env (eval (.Name x np) X.env) = eval (.Name x np) X.env := by rfl)
    (hfew : ((backTo cpos (starEach (e :: es) X.env)).all (fun x => !x.1) && (backToKw cpos (keywordEach [] X.env)).all (fun x => x.1.isSome)
      && decide ((e :: es).length + ([] : List Keyword).length + (if ([] : List Keyword).isEmpty then 0 else 1) < 30)) = true := by rfl)
    (hline : (apos.endLine == cpos.line) = true := by rfl) (hs : starEach (e :: es) X.env = (false, eval e X.env) :: starEach es X.env := by rfl) (hplain : (backTo cpos (starEach es X.env)).any (·.1) = false := by rfl)
    (hsw : swapsWith (.Call (.Attribute (.Name x np) name apos) (e :: es) [] cpos) none pos.line X.env = pure false := by rfl) :
    PS X (.Expr (.Call (.Attribute (.Name x np) name apos) (e :: es) [] cpos) pos) (liftS T W (sWr i f rs)) :=
  (ps_expr (pe_bm PySem.F.plainAttrs_list slot hty hm (pe_var hN hv hd hcd) ha hbase hfew hline hs hplain) hsw).imp (by rw [hK]; exact ls_wr)
theorem qs_put (i : Nat) {x : Str} {np tp : Pos} {b : Expr} {te ti : RE} {n : Nat} (hr : Room n X.A) (he : PE X e (liftE T W te)) (hi : PE X b (liftE T W ti)) (hN : X.N[i]? = some x := by rfl)
    (hv : Vis X.env.scope x := by first | exact Or.inl rfl | exact Or.inr (Or.inl rfl) | exact Or.inr (Or.inr rfl)) (hd : (x == ("__debug__" : Str)) = false := by decide) (hcd : (x == ("__classdict__" : Str)) = false := by decide)
    (ha : ∀ v, assign (.Subscript (.Name x np) b tp) X.env v = (do
      let ov ← holding [v] (eval (.Name x np) X.env)
      let iv ← holding [v, ov] (eval b X.env)
      standAt tp
      holding [v, ov, iv] (setItem ov iv v)
      release [v, ov, iv] []) := by intro _; rfl)
    (hs : swapsWithSole [.Subscript (.Name x np) b tp] e pos.line X.env = pure false := by rfl) (hw : swappedStores [.Subscript (.Name x np) b tp] e X.env = pure none := by rfl)
    (h1 : (assignEach [.Subscript (.Name x np) b tp] X.env).map (·.2) = [assign (.Subscript (.Name x np) b tp) X.env] := by rfl) : PS X (.Assign [.Subscript (.Name x np) b tp] e pos) (liftS T W (sPut i te ti)) :=
  (ps_asg he (pg_sub (pe_var hN hv hd hcd) hi (psetd hr) ha) hs hw h1).imp ls_put
end
end Dc
set_option maxHeartbeats 1000000
namespace Dc
open PySem L2 PyProof.Rows PySem.W

theorem Tms.len {T : Tx} {c : Dx T} {B H : Hp} : ∀ {vs : List V} {ds : List D}, Tms c B H vs ds → vs.length = ds.length
  | _, _, .nil => rfl
  | _, _, .cons _ r => by simp [Tms.len r]
theorem Dens.intsOf {T : Tx} {c : Dx T} {B : Hp} {xs : List V} {ds : List D} {ns : List Int} (r : Dens c B xs ds) (e : ds = ns.map D.int) : xs = ns.map V.int := by subst e; exact r.toInts

def fLen : FN
  | [.str z], k => z.length ≤ sizeLine ∧ k (.int z.length) .p
  | [.lst xs], k => k (.int xs.length) .p
  | [.tup xs], k => k (.int xs.length) .p
  | [.dic xs], k => k (.int xs.length) .p
  | [.scr xs], k => k (.int xs.length) .p
  | _, _ => False
def fAll : FN
  | [.lst ds], k => ∃ bs : List Bool, ds = bs.map D.bl ∧ k (.bl (bs.all id)) .p
  | _, _ => False
def topI : List Int → Int
  | [] => 0
  | [a] => a
  | a :: r => max a (topI r)
def lowI : List Int → Int
  | [] => 0
  | [a] => a
  | a :: r => min a (lowI r)
def fMax : FN
  | [.int i, .int j], k => k (.int (max i j)) .p
  | [.lst ds], k => ∃ ns : List Int, ds = ns.map D.int ∧ ns ≠ [] ∧ k (.int (topI ns)) .p
  | _, _ => False
def fMin : FN
  | [.int i, .int j], k => k (.int (min i j)) .p
  | [.lst ds], k => ∃ ns : List Int, ds = ns.map D.int ∧ ns ≠ [] ∧ k (.int (lowI ns)) .p
  | _, _ => False
def fInt : FN
  | [.int i], k => k (.int i) .p
  | [.bl b], k => k (.int (if b = true then 1 else 0)) .p
  | [.str a], k => ∃ n, PySem.intText? a = some n ∧ a.length ≤ 640 ∧ k (.int n) .p
  | _, _ => False
def fStr : FN
  | [.int i], k => i.natAbs.log2 < 1920 ∧ k (.str (toString i)) .p
  | [.str a], k => k (.str a) .p
  | _, _ => False
def fAbs : FN
  | [.int i], k => k (.int (if i < 0 then -i else i)) .p
  | _, _ => False
def fList : FN
  | [.lst xs], k => k (.lst xs) .f
  | [.tup xs], k => k (.lst xs) .f
  | [.dic kvs], k => k (.lst (keysD kvs)) .f
  | _, _ => False
def fTuple : FN
  | [.lst xs], k => k (.tup xs) .p
  | [.tup xs], k => k (.tup xs) .p
  | _, _ => False
def shD (d : D) : Str := (py d).shown
def okSh (d : D) : Prop := flat d = true ∧ (py d).showable = true ∧ (shD d).length ≤ sizeLine ∧ (py d).depth ≤ 60
def pyK : Key → PyData
  | .inl i => .int i
  | .inr x => .str x
def atomD : D → Bool
  | .non => true
  | .bl _ => true
  | .int _ => true
  | .str _ => true
  | _ => false
def dicPy (kvs : List (Key × D)) : PyData := .dict (kvs.map fun p => (pyK p.1, py p.2))
def okDic (kvs : List (Key × D)) : Prop := (∀ p ∈ kvs, atomD p.2 = true) ∧ (dicPy kvs).showable = true ∧ (dicPy kvs).shown.length ≤ sizeLine ∧ (dicPy kvs).depth ≤ 60
def fRepr : FN
  | [.dic kvs], k => okDic kvs ∧ k (.str (dicPy kvs).shown) .p
  | [d], k => okSh d ∧ k (.str (shD d)) .p
  | _, _ => False

theorem topI_mem : ∀ {l : List Int}, l ≠ [] → topI l ∈ l ∧ ∀ x ∈ l, x ≤ topI l
  | [], h => (h rfl).elim
  | [a], _ => by simp [topI]
  | a :: b :: r, _ => by
    obtain ⟨h1, h2⟩ := topI_mem (l := b :: r) (by simp)
    show max a (topI (b :: r)) ∈ _ ∧ ∀ x ∈ _, x ≤ max a (topI (b :: r))
    refine ⟨?_, fun x hx => ?_⟩
    · by_cases h : a ≤ topI (b :: r)
      · rw [Int.max_eq_right h]; exact List.mem_cons_of_mem _ h1
      · rw [Int.max_eq_left (by omega)]; exact List.mem_cons_self
    · rcases List.mem_cons.mp hx with e | hx
      · rw [e]; omega
      · have := h2 x hx; omega
theorem lowI_mem : ∀ {l : List Int}, l ≠ [] → lowI l ∈ l ∧ ∀ x ∈ l, lowI l ≤ x
  | [], h => (h rfl).elim
  | [a], _ => by simp [lowI]
  | a :: b :: r, _ => by
    obtain ⟨h1, h2⟩ := lowI_mem (l := b :: r) (by simp)
    show min a (lowI (b :: r)) ∈ _ ∧ ∀ x ∈ _, min a (lowI (b :: r)) ≤ x
    refine ⟨?_, fun x hx => ?_⟩
    · by_cases h : a ≤ lowI (b :: r)
      · rw [Int.min_eq_left h]; exact List.mem_cons_self
      · rw [Int.min_eq_right (by omega)]; exact List.mem_cons_of_mem _ h1
    · rcases List.mem_cons.mp hx with e | hx
      · rw [e]; omega
      · have := h2 x hx; omega
section
variable {X : Cx} {T : Tx}
theorem cd_len (hK : X.K = T.K := by rfl) : CallR X (.builtin "len") (rND T fLen) := by
  rintro pins s σ H xs us Q I rx ⟨c, B, ds, k, ex, t, h, q⟩
  unfold fLen at h
  split at h
  · cases t with
    | cons t r =>
      cases r
      have e := t.str_; subst e
      exact call_len pins s σ H _ us Q I rx ⟨_, _, rfl, ⟨h.1, rfl⟩, q _ _ _ _ h.2 (Res.int _)⟩
  · cases t with
    | cons t r =>
      cases r
      obtain ⟨a, xs, rfl, h1, r1⟩ := t.list ex
      exact call_len pins s σ H _ us Q I rx ⟨_, xs.length, rfl, .inl ⟨xs, .inl (.inl h1), rfl⟩, by rw [r1.length]; exact q _ _ _ _ h (Res.int _)⟩
  · cases t with
    | cons t r =>
      cases r
      obtain ⟨a, xs, rfl, h1, r1⟩ := t.tuple ex
      exact call_len pins s σ H _ us Q I rx ⟨_, xs.length, rfl, .inr ⟨xs, by rw [hK]; exact h1, rfl⟩, by rw [r1.length]; exact q _ _ _ _ h (Res.int _)⟩
  · cases t with
    | cons t r =>
      cases r
      obtain ⟨a, xs, rfl, h1, r1⟩ := t.dict ex
      obtain ⟨u, rfl, ru⟩ := rx.one
      obtain rfl : u = Value.ref a := ru
      exact d_len I (.inl h1) fun t s' I' => ⟨.int _, H, I', ⟨t, rfl⟩, by rw [show xs.length = _ from r1.length]; exact q _ _ _ _ h (Res.int _)⟩
  · rename_i ns
    cases t with
    | cons t r =>
      cases r
      obtain ⟨a, rfl, h1⟩ := t.scr_ ex
      exact call_len pins s σ H _ us Q I rx ⟨_, ns.length, rfl, .inl ⟨_, by rw [hK]; exact h1, by simp⟩, q _ _ _ _ h (Res.int _)⟩
  · exact h.elim
theorem one_list {c : Dx T} {B H : Hp} {xs : List V} {ds : List D} (ex : Ex B H) (t : Tms c B H xs [.lst ds]) : ∃ a vs, xs = [.ref a] ∧ H a = some (.lst vs) ∧ Dens c B vs ds := by
  cases t with
  | cons t r =>
    cases r
    obtain ⟨a, vs, rfl, h, r⟩ := t.list ex
    exact ⟨a, vs, rfl, h, r⟩
theorem one_tup {c : Dx T} {B H : Hp} {xs : List V} {ds : List D} (ex : Ex B H) (t : Tms c B H xs [.tup ds]) : ∃ a vs, xs = [.ref a] ∧ SqT T.K H a vs ∧ Dens c B vs ds ∧ Den c B (.ref a) (.tup ds) := by
  cases t with
  | cons t r =>
    cases r
    obtain ⟨a, vs, rfl, h, r⟩ := t.tuple ex
    refine ⟨a, vs, rfl, h, r, ?_⟩
    cases t with
    | den t => exact t
    | own _ t => cases t
theorem one_int {c : Dx T} {B H : Hp} {xs : List V} {i : Int} (t : Tms c B H xs [.int i]) : xs = [.int i] := by
  cases t with | cons t r => cases r; rw [t.int_]
theorem one_bl {c : Dx T} {B H : Hp} {xs : List V} {i : Bool} (t : Tms c B H xs [.bl i]) : xs = [.bl i] := by
  cases t with | cons t r => cases r; rw [t.bl_]
theorem one_str {c : Dx T} {B H : Hp} {xs : List V} {i : Str} (t : Tms c B H xs [.str i]) : xs = [.str i] := by
  cases t with | cons t r => cases r; rw [t.str_]
theorem two_int {c : Dx T} {B H : Hp} {xs : List V} {i j : Int} (t : Tms c B H xs [.int i, .int j]) : xs = [.int i, .int j] := by
  cases t with
  | cons t r =>
    cases r with
    | cons t2 r => cases r; rw [t.int_, t2.int_]
theorem Dens.blsOf {c : Dx T} {B : Hp} {xs : List V} {ds : List D} {ns : List Bool} (r : Dens c B xs ds) (e : ds = ns.map D.bl) : xs = ns.map V.bl := by subst e; exact r.toBls
theorem cd_all (hc : X.calm = true) : CallR X (.builtin "all") (rND T fAll) := by
  rintro pins s σ H xs us Q I rx ⟨c, B, ds, k, ex, t, h, q⟩
  unfold fAll at h
  split at h
  · obtain ⟨a, vs, rfl, h1, r⟩ := one_list ex t
    obtain ⟨ns, e, h⟩ := h
    exact cr_all hc pins s σ H _ us Q I rx ⟨a, ns, rfl, by rw [← r.blsOf e]; exact .inl (.inl h1), q _ _ _ _ h (Res.bl _)⟩
  · exact h.elim
theorem cd_max (hc : X.calm = true) : CallR X (.builtin "max") (rND T fMax) := by
  rintro pins s σ H xs us Q I rx ⟨c, B, ds, k, ex, t, h, q⟩
  unfold fMax at h
  split at h
  · rename_i i j
    have e := two_int t; subst e
    refine call_max2 hc pins s σ H _ us Q I rx ⟨_, _, rfl, ?_⟩
    rw [show (if j > i then j else i) = max i j from by split <;> omega]
    exact q _ _ _ _ h (Res.int _)
  · obtain ⟨a, vs, rfl, h1, r⟩ := one_list ex t
    obtain ⟨ns, e, ne, h⟩ := h
    obtain ⟨m1, m2⟩ := topI_mem ne
    refine cr_max hc pins s σ H _ us Q I rx ⟨a, ns, rfl, by rw [← r.intsOf e]; exact .inl (.inl h1), List.length_pos_iff.mpr ne, fun m hm hx => ?_⟩
    have e2 : m = topI ns := Int.le_antisymm (m2 m hm) (hx _ m1)
    rw [e2]; exact q _ _ _ _ h (Res.int _)
  · exact h.elim
theorem cd_min (hc : X.calm = true) : CallR X (.builtin "min") (rND T fMin) := by
  rintro pins s σ H xs us Q I rx ⟨c, B, ds, k, ex, t, h, q⟩
  unfold fMin at h
  split at h
  · rename_i i j
    have e := two_int t; subst e
    refine call_min2 hc pins s σ H _ us Q I rx ⟨_, _, rfl, ?_⟩
    rw [show (if j < i then j else i) = min i j from by split <;> omega]
    exact q _ _ _ _ h (Res.int _)
  · obtain ⟨a, vs, rfl, h1, r⟩ := one_list ex t
    obtain ⟨ns, e, ne, h⟩ := h
    obtain ⟨m1, m2⟩ := lowI_mem ne
    refine cr_min hc pins s σ H _ us Q I rx ⟨a, ns, rfl, by rw [← r.intsOf e]; exact .inl (.inl h1), List.length_pos_iff.mpr ne, fun m hm hx => ?_⟩
    have e2 : m = lowI ns := Int.le_antisymm (hx _ m1) (m2 m hm)
    rw [e2]; exact q _ _ _ _ h (Res.int _)
  · exact h.elim
theorem cd_int : CallR X (.type "int") (rND T fInt) := by
  rintro pins s σ H xs us Q I rx ⟨c, B, ds, k, ex, t, h, q⟩
  unfold fInt at h
  split at h
  · have e := one_int t; subst e
    exact call_int1 pins s σ H _ us Q I rx (.inl ⟨_, rfl, q _ _ _ _ h (Res.int _)⟩)
  · have e := one_bl t; subst e
    exact call_int1 pins s σ H _ us Q I rx (.inr ⟨_, rfl, q _ _ _ _ h (Res.int _)⟩)
  · have e := one_str t; subst e
    obtain ⟨n, hn, hl, h⟩ := h
    exact call_int_str pins s σ H _ us Q I rx ⟨_, n, rfl, hn, hl, q _ _ _ _ h (Res.int _)⟩
  · exact h.elim
theorem cd_str : CallR X (.type "str") (rND T fStr) := by
  rintro pins s σ H xs us Q I rx ⟨c, B, ds, k, ex, t, h, q⟩
  unfold fStr at h
  split at h
  · have e := one_int t; subst e
    exact call_str_int pins s σ H _ us Q I rx ⟨_, rfl, h.1, q _ _ _ _ h.2 (Res.str _)⟩
  · have e := one_str t; subst e
    exact SkE.call_str_str pins s σ H _ us Q I rx ⟨_, rfl, q _ _ _ _ h (Res.str _)⟩
  · exact h.elim
theorem cd_abs : CallR X (.builtin "abs") (rND T fAbs) := by
  rintro pins s σ H xs us Q I rx ⟨c, B, ds, k, ex, t, h, q⟩
  unfold fAbs at h
  split at h
  · have e := one_int t; subst e
    exact call_abs pins s σ H _ us Q I rx ⟨_, rfl, q _ _ _ _ h (Res.int _)⟩
  · exact h.elim
theorem cd_list (hc : X.calm = true) (hK : X.K = T.K := by rfl) : CallR X (.type "list") (rND T fList) := by
  rintro pins s σ H xs us Q I rx ⟨c, B, ds, k, ex, t, h, q⟩
  unfold fList at h
  split at h
  · obtain ⟨a, vs, rfl, h1, r⟩ := one_list ex t
    exact call_list_of pins s σ H _ us Q I rx ⟨a, vs, rfl, .inl (.inl (.inl h1)), fun p hp => q _ _ _ _ h (Res.newL ex hp r)⟩
  · obtain ⟨a, vs, rfl, h1, r, _⟩ := one_tup ex t
    exact call_list_of pins s σ H _ us Q I rx ⟨a, vs, rfl, .inr (by rw [hK]; exact h1), fun p hp => q _ _ _ _ h (Res.newL ex hp r)⟩
  · cases t with
    | cons t r =>
      cases r
      obtain ⟨a, xs, rfl, h1, r1⟩ := t.dict ex
      exact call_list_dK hc pins s σ H _ us Q I rx ⟨a, xs, rfl, h1, fun p hp => q _ _ _ _ h (Res.newL ex hp r1.keys)⟩
  · exact h.elim
theorem cd_tuple (hK : X.K = T.K := by rfl) : CallR X (.type "tuple") (rND T fTuple) := by
  rintro pins s σ H xs us Q I rx ⟨c, B, ds, k, ex, t, h, q⟩
  unfold fTuple at h
  split at h
  · obtain ⟨a, vs, rfl, h1, r⟩ := one_list ex t
    exact call_tuple_of pins s σ H _ us Q I rx ⟨a, vs, rfl, .inl ⟨.inl (.inl h1), fun p hp => q _ _ _ _ h (Res.newT ex hp r)⟩⟩
  · obtain ⟨a, vs, rfl, h1, r, n⟩ := one_tup ex t
    exact call_tuple_of pins s σ H _ us Q I rx ⟨a, vs, rfl, .inr ⟨by rw [hK]; exact h1, q _ _ _ _ h (Res.den n)⟩⟩
  · exact h.elim
theorem showable_int {i : Int} (h : (py (.int i)).showable = true) : i.natAbs.log2 < 1920 := by
  have h : decide (i.natAbs.log2 < 1920) = true := h
  exact of_decide_eq_true h
mutual
theorem noDict : ∀ d : D, (py d).hasDict = false
  | .non => rfl
  | .bl _ => rfl
  | .int _ => rfl
  | .str _ => rfl
  | .tup xs => by show (PyData.tuple (pys xs)).hasDict = false; simp only [PyData.hasDict]; exact noDicts xs
  | .lst xs => by show (PyData.list (pys xs)).hasDict = false; simp only [PyData.hasDict]; exact noDicts xs
  | .dic _ => rfl
  | .obj _ _ => rfl
  | .ptr => rfl
  | .clo _ _ => rfl
  | .exc _ _ => rfl
  | .adr _ => rfl
  | .scr _ => rfl
  | .tpz _ => rfl
theorem noDicts : ∀ ds : List D, PyData.hasDictAll (pys ds) = false
  | [] => rfl
  | d :: ds => by show ((py d).hasDict || PyData.hasDictAll (pys ds)) = false; rw [noDict d, noDicts ds]; rfl
end
theorem pairs_read {T : Tx} {c : Dx T} {B : Hp} {h : Heap} : ∀ {xs : List (Key × V)} {vs : List (Key × Value)} {ds : List (Key × D)}, KV xs vs → DenK c B xs ds → (∀ p ∈ ds, atomD p.2 = true) → PyProof.V.PairsRead h pyK vs (ds.map fun p => (pyK p.1, py p.2)) []
  | _, _, _, kv, .nil, _ => by
    cases kv
    exact .nil
  | _, _, _, kv, .cons (d := d0) dn r, ha => by
    cases kv with
    | cons e rest =>
      rename_i q vs'
      obtain ⟨k', u⟩ := q
      obtain ⟨rfl, ru⟩ := e
      have rd : Reads h u (py d0) [] := by
        have a1 := ha _ (List.mem_cons_self ..)
        cases dn with
        | non => obtain rfl : u = Value.none := ru; exact Reads.none
        | bl b => obtain rfl : u = Value.bool b := ru; exact Reads.bool b
        | int i => obtain ⟨t, rfl⟩ := ru; exact Reads.int i t
        | str x => obtain ⟨t, rfl⟩ := ru; exact Reads.str x t
        | _ => exact Bool.noConfusion a1
      exact PyProof.V.PairsRead.cons rd (pairs_read rest r fun p hp => ha p (List.mem_cons_of_mem _ hp))
theorem key_reads {w : World} {P : Program} {h : Heap} (k : Key) (key : Value) (e : (mixKind P w).is k key = true) : Reads h key (pyK k) [] := by
  rcases keyIs_shape e with ⟨i, t, rfl, rfl⟩ | ⟨x, t, rfl, rfl⟩
  · exact Reads.int i t
  · exact Reads.str x t
theorem cd_reprH {n : Nat} (hr : L2H.RoomH n X.A) (hg : X.A.guards = some []) (hK : X.K = T.K := by rfl) : CallR X (.builtin "repr") (rND T fRepr) := by
  rintro pins s σ H xs us Q I rx ⟨c, B, ds, k, ex, t, h, q⟩
  unfold fRepr at h
  split at h
  · rename_i kvs
    obtain ⟨⟨h1, h2, h3, h4⟩, h⟩ := h
    cases t with
    | cons t r =>
      cases r
      obtain ⟨u, rfl, ru⟩ := rx.one
      obtain ⟨a, xs, rfl, e1, dk⟩ := t.dict ex
      obtain rfl : u = Value.ref a := ru
      obtain ⟨_, lo, vs, kv, D⟩ := dk_of I.hok e1
      have rd := PyProof.V.reads_dictOf (fun k key e => key_reads k key e) D (pairs_read kv dk h1)
      have h4 : (PyData.dict (kvs.map fun p => (pyK p.1, py p.2))).depth ≤ 60 := h4
      refine repr_of_reads' rd h2 (fun _ z => ?_) hg (by have := hr.un; omega) (fun _ _ z => z) (fun h' u tk kp => ?_) h3
      · rw [List.mem_singleton] at z
        rw [← z] at lo
        simp at lo
      · exact ⟨.str _, H, I.kept (t' := tk) kp, ⟨_, rfl⟩, q _ _ _ _ h (Res.str _)⟩
  · rename_i d hnd
    obtain ⟨⟨h1, h2, h3, h4⟩, h⟩ := h
    cases t with
    | cons t r =>
      cases r
      obtain ⟨u, rfl, ru⟩ := rx.one
      have dp := t.dp ex h1
      have big : ∀ {a : Addr}, u = Value.ref a → wpAny (model X.prog X.w) X.A (call (.builtin "repr") [u]) (EP X pins σ Q) X.xe s := fun {a} e => by
        subst e
        obtain ⟨as, rd⟩ := Dp.reads I _ _ _ (by rw [hK]; exact dp) ru
        refine repr_of_reads' rd h2 (fun z => by rw [noDict d] at z; cases z) hg (by have := hr.un; omega) (fun _ _ z => z) (fun h' u tk kp => ?_) h3
        exact ⟨.str _, H, I.kept (t' := tk) kp, ⟨_, rfl⟩, q _ _ _ _ h (Res.str _)⟩
      cases d <;> first | (cases (show false = true from h1)) | skip
      case non =>
        have e := t.non_; subst e
        obtain rfl : u = Value.none := ru
        exact PySem.P.repr_of_none ⟨.str _, H, I.tok _, ⟨_, rfl⟩, q _ _ _ _ h (Res.str _)⟩
      case bl b =>
        have e := t.bl_; subst e
        obtain rfl : u = Value.bool b := ru
        exact PySem.P.repr_of_bool ⟨.str _, H, I.tok _, ⟨_, rfl⟩, q _ _ _ _ h (Res.str _)⟩
      case int i =>
        have e := t.int_; subst e
        obtain ⟨t', rfl⟩ := ru
        exact PySem.P.repr_of_int (showable_int h2) ⟨.str _, H, I.tok _, ⟨_, rfl⟩, q _ _ _ _ h (Res.str _)⟩
      case str x =>
        have e := t.str_; subst e
        obtain ⟨t', rfl⟩ := ru
        exact PySem.P.repr_of_str ⟨.str _, H, I.tok _, ⟨_, rfl⟩, q _ _ _ _ h (Res.str _)⟩ h3
      case tup xs =>
        obtain ⟨a, vs, rfl, _, _⟩ := t.tuple ex
        exact big ru
      case lst xs =>
        obtain ⟨a, vs, rfl, _, _⟩ := t.list ex
        exact big ru
  · exact h.elim
theorem cd_repr {n : Nat} (hr : Room n X.A) (hg : X.A.guards = some []) (hK : X.K = T.K := by rfl) : CallR X (.builtin "repr") (rND T fRepr) := cd_reprH (L2H.roomH_of hr) hg hK
end
end Dc
set_option maxHeartbeats 1000000
namespace Dc
open PySem L2 PyProof.Rows PySem.W

def dCall1 (f : FN) (so : Sps) (ta : RE) : RE := fun x ρ Q => ta x ρ fun d g ρ1 => match d with
  | .obj k os => so [.obj k os] (fun e o => Q e (tagO o) ρ1) (fun _ => False)
  | d => f [d] fun e g => Q e g ρ1
def rOD (T : Tx) (f : FN) (so : Sps) : List V → Hp → VK → Prop := fun xs H Q => rND T f xs H Q ∨ spD T 1 so xs H Q fun _ _ _ => False
def spNone : Sps := fun _ _ _ => False
def spOr (cn : Nat) (s1 s2 : Sps) : Sps := fun ds Qd xd => match ds with
  | [.obj k os] => if k = cn then s1 [.obj k os] Qd xd else s2 [.obj k os] Qd xd
  | _ => False
def strS (sp : Sps) : Sps := fun ds Qd xd => sp ds (fun d _ => match d with
  | .str n => Qd (.str n) false
  | _ => False) (fun _ => False)
section
variable {T : Tx} {W : WX} {f : FN} {so : Sps} {ta : RE}
theorem le_call1 : ∀ σ H Q', liftE T W (dCall1 f so ta) σ H Q' → tCB (rOD T f so) (tCons (liftE T W ta) tNil) σ H Q' := by
  rintro σ H Q' ⟨c, B, ρ, x, Q, R, X, h, q⟩
  refine ⟨c, B, ρ, x, _, R, X, h, fun d g ρ1 v B1 H1 h1 e1 k1 R1 t1 => ?_⟩
  have pl : (f [d] fun e g => Q e g ρ1) → rOD T f so [v] H1 Q' := fun h1 => .inl ⟨c, B1, [d], _, R1.ex, .cons (t1.tm R1) .nil, h1, fun d g v H' hq r => res_to R1 (fun d g ρ' v B' H' hQ e k R' t => q d g ρ' v B' H' hQ (e1.trans e) (k1.trans k) R' t) hq r⟩
  cases d
  case obj k os =>
    exact .inr (spD_at (W := fun _ _ _ _ => False) (x := noX) R1 XW.no (.cons ((t1.tm R1).denO) .nil) rfl h1 fun d g ρ' v B' H' a1 a2 a3 a4 a5 => q _ _ _ _ B' H' a1 (e1.trans a2) (k1.trans a3) a4 a5)
  all_goals exact pl h1
end
theorem spD.one {T : Tx} {sp : Sps} {xs : List V} {H : Hp} {Q : VK} {E : XK} (h : spD T 1 sp xs H Q E) (ob : ∀ {d Qd xd}, sp [d] Qd xd → ∃ k os, d = .obj k os) : ∃ a k os dx vs, xs = [.ref a] ∧ SlX.Slt H a (T.cl k) dx vs ∧ ∃ (c : Dx T) (B : Hp) (Qd : D → Bool → Prop) (xd : D → Prop), c.H0 = H ∧ Hold c B H ∧ Den c B (.ref a) (.obj k os) ∧ sp [.obj k os] Qd xd ∧
    (∀ d o v B' H', Qd d o → Ex B B' → ExP c H H' → Hold c B' H' → RetOk c B' H' v d o → Q v H') ∧ (∀ e cls dd B' H', xd e → Ex B B' → ExP c H H' → Hold c B' H' → XDen c B' cls dd e → E cls dd H') := by
  obtain ⟨c, B, ds, Qd, xd, h0, ho, r, hl, hs, q, qx⟩ := h
  match ds, hl, r with
  | [d], _, .cons n .nil =>
    obtain ⟨k, os, rfl⟩ := ob hs
    cases n with
    | @obj a dx xs' _ _ sl r => exact ⟨a, k, os, dx, _, rfl, ho.ex.slt sl, c, B, Qd, xd, h0, ho, .obj sl r, hs, q, qx⟩
theorem spOr_obj {cn : Nat} {s1 s2 : Sps} {d : D} {Qd : D → Bool → Prop} {xd : D → Prop} (h : spOr cn s1 s2 [d] Qd xd) : ∃ k os, d = .obj k os := by
  unfold spOr at h
  split at h
  · rename_i k os e
    injection e with e; exact ⟨k, os, e⟩
  · exact h.elim
section
variable {X : Cx} {T : Tx} {k cn : Nat} {f : Addr} {fd : FuncData} {ps : List Str} {sp : Sp} {pins : List (Addr × Obj)} {σ : L2.St} {H : Hp} {s : Shared} {a : Addr} {Q : VK}
theorem own_call {A : Around} (F : FnG X.prog X.w X.K X.mg X.base k f fd ps sp) (hr : Room k A) (hg : A.guards = some []) (e0 : Env0 X.prog X.w X.K X.mg X.base A X.stack s H) (hb : KB X.K fd ps 1 []) (I : Inv X pins σ H s) (h : sp [.ref a] H Q fun _ _ _ => False) :
    wpAny (model X.prog X.w) A (call (.ref f) [.ref a]) (fun r s' => ∃ v H', Inv X pins σ H' s' ∧ L2.RelV v r ∧ Q v H') X.xe s := by
  refine wpAny_call (codeAny_mono (F.run A X.stack s H ⟨[.ref a], []⟩ [.ref a] [.ref a] Q _ hr hg e0 (hb _ [.ref a] [] I.kIn rfl rfl) (.cons rfl .nil) h) fun r s' hq => ?_)
  cases r with
  | error e =>
    obtain ⟨_, _, _, _, _, _, _, _, _, _, _, _, z⟩ := hq
    exact z.elim
  | ok fl =>
    cases fl with
    | ret u => exact I.after hq
    | next => exact False.elim hq
    | brk => exact False.elim hq
    | cont => exact False.elim hq
end
section
variable {X : Cx} {T : Tx} {k cn : Nat} {f : Addr} {fd : FuncData} {ps : List Str} {sp s2 : Sps} {f0 : FN} {g : Value}
theorem co_none (h : CallR X g (rND T f0)) : CallR X g (rOD T f0 spNone) := by
  intro pins s σ H xs us Q I rx hq
  rcases hq with hq | ⟨c, B, ds, Qd, xd, _, _, _, _, z, _⟩
  · exact h pins s σ H xs us Q I rx hq
  · exact z.elim
theorem co_cls {s1 : Sps} (h : CallR X g (rOD T f0 s2)) (h1 : ∀ (pins : List (Addr × Obj)) (s : Shared) (σ : L2.St) (H : Hp) (a dx : Addr) (vs : List (Option V)) (Q : VK), Inv X pins σ H s → SlX.Slt H a (T.cl cn) dx vs → spD T 1 s1 [.ref a] H Q (fun _ _ _ => False) →
    wpAny (model X.prog X.w) X.A (call g [.ref a]) (EP X pins σ Q) X.xe s) : CallR X g (rOD T f0 (spOr cn s1 s2)) := by
  intro pins s σ H xs us Q I rx hq
  rcases hq with hq | hq
  · exact h pins s σ H xs us Q I rx (.inl hq)
  · obtain ⟨a, n, os, dx, vs, rfl, sl, c, B, Qd, xd, h0, ho, den, hs, q, qx⟩ := hq.one spOr_obj
    by_cases e : n = cn
    · subst e
      obtain ⟨u, rfl, ru⟩ := rx.one
      obtain rfl : u = Value.ref a := ru
      have hs : (if n = n then s1 [.obj n os] Qd xd else _) := hs
      rw [if_pos rfl] at hs
      exact h1 pins s σ H a dx vs Q I sl ⟨c, B, _, Qd, xd, h0, ho, .cons den .nil, rfl, hs, q, qx⟩
    · have hs : (if n = cn then _ else s2 [.obj n os] Qd xd) := hs
      rw [if_neg e] at hs
      exact h pins s σ H _ us Q I rx (.inr ⟨c, B, _, Qd, xd, h0, ho, .cons den .nil, rfl, hs, q, qx⟩)
theorem spD.post {sp sp' : Sps} {P : D → Bool → Prop} {n : Nat} {vs : List V} {H : Hp} {Q : VK} {E : XK} (h : spD T n sp' vs H Q E) (Q2 : VK)
    (k : ∀ ds Qd xd, sp' ds Qd xd → sp ds (fun d o => ∃ e o', Qd e o' ∧ ∀ (c : Dx T) B H v, RetOk c B H v d o → ∃ w, RetOk c B H w e o' ∧ ∀ H', Q w H' → Q2 v H') xd) : spD T n sp vs H Q2 E := by
  obtain ⟨c, B, ds, Qd, xd, h0, ho, r, hl, hs, q, qx⟩ := h
  exact ⟨c, B, ds, _, xd, h0, ho, r, hl, k ds Qd xd hs, fun d o v B' H' ⟨e, o', hq, z⟩ eb kp ho' ro => by
    obtain ⟨w, ro', z⟩ := z c B' H' v ro
    exact z H' (q e o' w B' H' hq eb kp ho' ro'), qx⟩
theorem RetOk.int_ {c : Dx T} {B H : Hp} {v : V} {i : Int} {o : Bool} (h : RetOk c B H v (.int i) o) : v = .int i := by
  cases h with
  | p h => cases h; rfl
  | f _ h => cases h
theorem RetOk.str_ {c : Dx T} {B H : Hp} {v : V} {i : Str} {o : Bool} (h : RetOk c B H v (.str i) o) : v = .str i := by
  cases h with
  | p h => cases h; rfl
  | f _ h => cases h
theorem co_repr (F : FnG X.prog X.w X.K X.mg X.base k f fd ps (spD T 1 sp)) (hr : Room (k + 1) X.A) (hg : X.A.guards = some []) (hb : KB X.K fd ps 1 []) (hs : findIn X.K (.ref (T.cl cn)) "__repr__" = some (some (.ref f))) (hf : isFn X.K (.ref f) = true)
    (h : CallR X (.builtin "repr") (rOD T f0 s2)) : CallR X (.builtin "repr") (rOD T f0 (spOr cn (strS sp) s2)) := by
  refine co_cls h fun pins s σ H a dx vs Q I sl hq => ?_
  obtain ⟨_, od, _, J, _⟩ := SlX.slt_inst I sl
  obtain ⟨m, hF⟩ := I.fr
  refine repr_K (by have := hr.un; show X.A.units + 1 < cLine; omega) hF I.ok.mod.kin J hs hf (wpAny_mono (own_call (Q := fun v H' => ∃ n, v = .str n ∧ Q (.str n) H') F hr.in1 hg I.env0.in1 hb I ?_) (fun r s' hv => ?_) fun _ _ e => e)
  · obtain ⟨c, B, ds, Qd, xd, h0, ho, r, hl, hs, q, qx⟩ := hq
    refine ⟨c, B, ds, _, _, h0, ho, r, hl, hs, fun d o v B' H' hq eb kp ho' ro => ?_, fun e cls dd B' H' z => z.elim⟩
    cases d <;> first | exact hq.elim | skip
    case str n => exact ⟨n, ro.str_, q _ _ _ B' H' hq eb kp ho' (.p (.str n))⟩
  · obtain ⟨v, H', I', rv, n, rfl, q⟩ := hv
    obtain ⟨t, rfl⟩ := rv
    exact ⟨.str n, H', I', ⟨_, rfl⟩, q⟩
end
section
variable {prog : Program} {w : World} {A : Around} {E : Value → Shared → Prop} {s : Shared} {K : Frag} {x C f : Addr} {ox : Obj} {od : Option Obj}
end
section
variable {X : Cx} {T : Tx} {k cn : Nat} {f : Addr} {fd : FuncData} {ps : List Str} {sp s2 : Sps} {f0 : FN}
end
section
variable {X : Cx} {T : Tx} {W : WX} {e : Expr} {re : RE} {pos : Pos} {x : Str} {p : Pos} {id : String} {f : FN} {so : Sps}
theorem qe_oneB (hc : CallR X (.builtin id) (rOD T f so)) (hm : X.mg x = none) (hv : bootBuiltins x = some (.builtin id)) (he : PE X e (liftE T W re)) (hg : Gl X x := by rfl) (hn : x ≠ "__name__" := by decide) (hdb : (x == ("__debug__" : Str)) = false := by decide)
    (hs : starEach (e :: []) X.env = (false, eval e X.env) :: starEach [] X.env := by rfl) (hpl : (backTo pos (starEach [] X.env)).any (·.1) = false := by rfl) : PE X (.Call (.Name x p) [e] [] pos) (liftE T W (dCall1 f so re)) :=
  (pe_callB hc hg hm hv (pa_cons he pa_nil hs) hn hdb hs hpl).imp le_call1
end
end Dc
set_option maxHeartbeats 2000000
namespace PySem
open Sem (wp)
open AutoSeq1 (wpAny_loadPart')
theorem Dc_enum_newT (l : Addr) (o : Obj) (items : Array Value) (ho : o.cls = .type "tuple") (hd : ∃ n, o.data = .seq items n) :
    Meets (Builtin.«enumerate.__new__» ⟨[.type "enumerate", .ref l], []⟩) (fun _ R s => s.heap.get? l = some o ∧
      R (.ok (.ret (.ref (s.heap.push { cls := .type "tuple_iterator", data := .fields #[.ref l, .int 0 0] }).objs.size)))
        { s with heap := (s.heap.push { cls := .type "tuple_iterator", data := .fields #[.ref l, .int 0 0] }).push { cls := .type "enumerate", data := .fields #[.none, .bool false, .ref s.heap.objs.size, rawInt 0, .none, .none] } }) :=
  .of_wp fun prog w A R s h => by
    obtain ⟨hp, g, d, tk, os⟩ := s; obtain ⟨hl, h⟩ := h
    obtain ⟨n, hd⟩ := hd
    obtain ⟨cl, dct, dt, sl⟩ := o
    simp only at ho hd
    subst ho hd
    have hsub := sub_enumerate
    have hL : Heap.IsTuple (Shared.heap ⟨hp, g, d, tk, os⟩) l items := ⟨_, hl, rfl, n, rfl⟩
    wp_walk using wpAny_loadPart' hl
    refine wpAny_stack_any fun st => wpAny_pure ?_
    split
    · rename_i c _ _ _ _ _
      cases (c == Value.type "enumerate")
      · wp_walk using wpAny_loadPart' hl, wpAny_pyIter_tuple hL
        exact ⟨_, rfl, h⟩
      · wp_walk using wpAny_loadPart' hl, wpAny_pyIter_tuple hL
        exact ⟨_, rfl, h⟩
    · wp_walk using wpAny_loadPart' hl, wpAny_pyIter_tuple hL
      exact ⟨_, rfl, h⟩
end PySem
namespace Dc
open PySem L2 PyProof.Rows PySem.W
section
variable {prog : Program} {w : World} {A : Around} {E : Value → Shared → Prop} {s : Shared}
theorem call_enumT {l : Addr} {items : Array Value} {Q : Value → Shared → Prop} (hL : s.heap.IsTuple l items)
    (h : ∀ h', IsEnum h' (s.heap.objs.size + 1) s.heap.objs.size 0 .none → h'.IsTupleIter s.heap.objs.size l 0 →
      (∀ b o, s.heap.get? b = some o → h'.get? b = some o) → Q (.ref (s.heap.objs.size + 1)) { s with heap := h' }) : wpAny (model prog w) A (call (.type "enumerate") [.ref l]) Q E s := by
  obtain ⟨o, hl, hc, hd⟩ := hL
  refine callType_new F.called_enumerate (by decide) (F.typeCall_enumerate_1 _) (F.newCall_enumerate_1 _) (fun obj => F.args_object_init_2 obj _) F.entry_enumerate_new (Dc_enum_newT l o items hc hd) ⟨hl, ?_⟩
  have hz : (s.heap.push { cls := .type "tuple_iterator", data := .fields #[.ref l, .int 0 0] }).objs.size = s.heap.objs.size + 1 := Heap.size_push ..
  show _ ∧ _
  rw [hz]
  have he : IsEnum ((s.heap.push { cls := .type "tuple_iterator", data := .fields #[.ref l, .int 0 0] }).push
      { cls := .type "enumerate", data := .fields #[.none, .bool false, .ref s.heap.objs.size, rawInt 0, .none, .none] }) (s.heap.objs.size + 1) s.heap.objs.size 0 .none := by
    have := Heap.get?_push_size (s.heap.push { cls := .type "tuple_iterator", data := .fields #[.ref l, .int 0 0] })
      (o := { cls := .type "enumerate", data := .fields #[.none, .bool false, .ref s.heap.objs.size, rawInt 0, .none, .none] }) rfl
    rw [hz] at this; exact this
  exact ⟨⟨_, he, rfl⟩, h _ he ⟨_, Heap.get?_push_of_some _ (Heap.get?_push_size _ rfl), rfl, rfl⟩ fun b o x => Heap.get?_push_of_some _ (Heap.get?_push_of_some _ x)⟩
end
def Ett (K : Frag) (a : Addr) : It :=
  ⟨fun i H => ∃ (xs : List V) (x : V), SqT K H a xs ∧ xs[i]? = some x, fun i H v H' => ∃ p x, v = .ref p ∧ H p = none ∧ H' = upd H p (.tup [.int (i : Nat), x]) ∧ ∀ xs, SqT K H a xs → xs[i]? = some x, fun i H => ∃ xs : List V, SqT K H a xs ∧ xs.length = i⟩
theorem turn_enumT {P : Program} {w : World} {K : Frag} {elts : List Expr} {kk : Nat} {tpos : Pos} (a e it : Addr) (n1 : e ≠ it) (n2 : a ≠ it) (n3 : e ≠ a) :
    Turn P w K (.Tuple elts kk tpos) (Ett K a) [e, it] e (fun i h => (∃ old, IsEnum h e it ((i : Nat) : Int) old) ∧ h.IsTupleIter it a i) where
  mem := by simp
  obj := fun i h st b hb => by
    obtain ⟨⟨old, he⟩, ⟨o, ho, hc, hd⟩⟩ := st
    have e' : b = e ∨ b = it := by simpa using hb
    rcases e' with z | z
    · rw [z]; exact ⟨_, he, fun v q => nomatch q⟩
    · rw [z]; exact ⟨o, ho, fun v q => by rw [hd] at q; cases q⟩
  keep := fun i h h' st k => let ⟨⟨old, he⟩, hi⟩ := st; ⟨⟨old, k e (by simp) _ he⟩, hi.at fun o q => k it (by simp) o q⟩
  item := by
    intro X hP hw hK hc i pins s σ H E I hf st hg
    subst hP hw hK
    obtain ⟨⟨old, he⟩, hit⟩ := st
    obtain ⟨xs, x, hq, hx⟩ := hg
    obtain ⟨its, rv, p, hz⟩ := I.tuple hq
    obtain ⟨u, hu, ru⟩ := rv.get hx
    have hel : e < s.heap.objs.size := Heap.lt_size he
    have hil : it < s.heap.objs.size := by obtain ⟨_, q, _⟩ := hit; exact Heap.lt_size q
    have hh : X.A.handled = none := I.ok.hd hc
    have hlt : i < its.toArray.size := by simpa using (List.getElem?_eq_some_iff.mp hu).1
    refine wpAny_pyNext_enum_itemD (Draws.tuple (A := X.A.in1) hh it a n2 its.toArray) he ⟨hit, p⟩ hlt n1 (by simp [n1, n3]) fun x' h' tk hx' ho st' hT hsz hk => ?_
    have ex : x' = u := by
      have hx' : its.toArray[i]? = some x' := hx'
      rw [show its.toArray[i]? = some u from by simpa using hu] at hx'
      exact (Option.some.inj hx').symm
    subst ex
    refine ⟨_, rfl, wpAny_letOwnedTupleGo_enum (s := { s with heap := h', toks := tk + 1 }) ho fun h'' he' sb => ?_⟩
    have hT2 : h''.get? s.heap.objs.size = some { cls := .type "tuple", data := .seq #[.int i tk, x'] } := (sb.2 _ (Nat.ne_of_gt hel)).trans hT
    have new : ObjOk X.prog X.w (upd H s.heap.objs.size (.tup [.int (i : Nat), x])) h'' s.heap.objs.size (.tup [.int (i : Nat), x]) :=
      ⟨by show 2 ≤ sizeLine; decide, [.int i tk, x'], .cons ⟨_, rfl⟩ (.cons ru .nil), ⟨_, hT2, rfl, _, rfl⟩⟩
    have I1 : L2.Inv X pins σ (upd H s.heap.objs.size (.tup [.int (i : Nat), x])) { s with heap := h'', toks := tk + 1 } :=
      I.turnedNew (ch := [e, it]) (fun b ob hb q => (sb.2 b (fun z => hb (by simp [z]))).trans (hk b ob (fun z => hb (by simp [z])) (fun z => hb (by simp [z])) q)) hf (Nat.le_refl _) new
    refine ⟨.ref s.heap.objs.size, _, I1, rfl, ⟨_, x, rfl, I.hok.fresh (Nat.le_refl _), rfl, fun ys hy => by rw [I.tuple_inj hy hq]; exact hx⟩, ⟨⟨x', ?_⟩, st'.1.at fun o q => (sb.2 it (Ne.symm n1)).trans q⟩, fun b hb => ?_⟩
    · have e1 : ((i + 1 : Nat) : Int) = (i : Int) + 1 := by omega
      rw [e1]; exact he'
    · have hb' : b < s.heap.objs.size := by
        have e' : b = e ∨ b = it := by simpa using hb
        rcases e' with z | z
        · rw [z]; exact hel
        · rw [z]; exact hil
      rw [upd_ne (Nat.ne_of_lt hb')]
      exact (hf b hb).1
  done := by
    intro X hP hw hK hc i pins s σ H E I hf st hg
    subst hP hw hK
    obtain ⟨⟨old, he⟩, hit⟩ := st
    obtain ⟨xs, hq, hx⟩ := hg
    obtain ⟨its, rv, p, hz⟩ := I.tuple hq
    obtain ⟨f0, f1, f2, f3, f4, f5⟩ := hf it (by simp)
    have hl := rv.length
    have ei : i = its.toArray.size := by rw [List.size_toArray, ← hl]; exact hx.symm
    rw [ei] at hit
    have hh : X.A.handled = none := I.ok.hd hc
    exact wpAny_pyNext_enum_endD (Draws.tuple (A := X.A.in1) hh it a n2 its.toArray) he ⟨hit, p⟩ fun h' eb => ⟨rfl, I.turned (t' := s.toks) (fun b o hb q => eb b o hb q) f0 f1 f3 f4 f5⟩
  self := fun A i s Q E st h => let ⟨⟨_, he⟩, _⟩ := st; wpAny_pyIter_enum he h
def iEnumA (K : Frag) (ta : TA) : TI := fun σ H R => ta σ H fun vs H1 => ∃ a xs, vs = [.ref a] ∧ ((SqL K H1 a xs ∧ R (Ite K a) H1) ∨ (SqT K H1 a xs ∧ R (Ett K a) H1))
theorem pi_enumA {X : Cx} {e : Expr} {ta : TA} {p pos tpos : Pos} {elts : List Expr} {kk : Nat} (hg : Gl X "enumerate") (hm : X.mg "enumerate" = none) (ha : PA X [e] ta) (hs : starEach [e] X.env = [(false, eval e X.env)] := by rfl) :
    PI X (.Tuple elts kk tpos) (.Call (.Name "enumerate" p) [e] [] pos) (iEnumA X.K ta) := by
  refine ⟨fun pins s σ H R I h => ?_⟩
  refine Call_ (ld_blt I hg hm boot_enumerate (PyProof.Rows.callWith_type1 (thn (ha.run pos pins s σ H _ I h) fun us s1 ⟨vs, H1, I1, r1, q1⟩ => ?_) hs rfl))
  obtain ⟨a, xs, ex, q⟩ := q1
  subst ex
  cases r1 with
  | cons r rr =>
    cases rr
    cases r
    have fin : ∀ {J : It} {tn : Nat → Heap → Prop} {h' : Heap}, L2.Inv X pins σ H1 { s1 with heap := h' } → Turn X.prog X.w X.K (.Tuple elts kk tpos) J [s1.heap.objs.size + 1, s1.heap.objs.size] (s1.heap.objs.size + 1) tn → tn 0 h' → R J H1 →
        PIE X pins σ (.Tuple elts kk tpos) R (.ref (s1.heap.objs.size + 1)) { s1 with heap := h' } := fun {J tn h'} I2 T st q => by
      refine ⟨s1.heap.objs.size + 1, [s1.heap.objs.size + 1, s1.heap.objs.size], _, _, H1, rfl, I2, T, st, fun b hb => ?_, q⟩
      have e' : b = s1.heap.objs.size + 1 ∨ b = s1.heap.objs.size := by simpa using hb
      have hle : s1.heap.objs.size ≤ b := by
        rcases e' with z | z
        · rw [z]; exact Nat.le_add_right _ _
        · rw [z]; exact Nat.le_refl _
      exact I1.fpOk hle (I1.hok.fresh hle)
    rcases q with ⟨hq, q⟩ | ⟨hq, q⟩
    · obtain ⟨its, rv, p', hz⟩ := I1.list hq
      refine call_enumerate_list p'.isList fun h' he hit hsz hk => wpAny_pyIter_enum he ?_
      exact fin (I1.kept (t' := s1.toks) hk) (turn_enum a (s1.heap.objs.size + 1) s1.heap.objs.size) ⟨⟨.none, he⟩, hit, Nat.succ_ne_self _⟩ q
    · obtain ⟨its, rv, p', hz⟩ := I1.tuple hq
      have al : a < s1.heap.objs.size := by obtain ⟨o, ho, _⟩ := p'; exact Heap.lt_size ho
      refine call_enumT p' fun h' he hit hk => wpAny_pyIter_enum he ?_
      exact fin (I1.kept (t' := s1.toks) hk) (turn_enumT a (s1.heap.objs.size + 1) s1.heap.objs.size (Nat.succ_ne_self _) (Nat.ne_of_lt al) (Ne.symm (Nat.ne_of_lt (Nat.lt_succ_of_lt al)))) ⟨⟨.none, he⟩, hit⟩ q
def iEnumD (t : RE) : RI := fun x ρ Q => t x ρ fun d g ρ1 => items d fun ds => Q (numbered ds) (leak d g ρ1)
theorem numbered_get {ds : List D} {i : Nat} {e : D} (h : (numbered ds)[i]? = some e) : ∃ d, ds[i]? = some d ∧ e = .tup [.int (i : Nat), d] := by
  unfold numbered at h
  rw [List.getElem?_map] at h
  cases q : ds.zipIdx[i]? with
  | none => rw [q] at h; cases h
  | some p =>
    rw [q] at h
    rw [List.getElem?_zipIdx] at q
    cases z : ds[i]? with
    | none => rw [z] at q; cases q
    | some d =>
      rw [z] at q
      simp at q; subst q
      simp at h
      exact ⟨d, rfl, h.symm⟩
theorem numbered_length {ds : List D} : (numbered ds).length = ds.length := by simp [numbered]
section
variable {T : Tx} {c : Dx T} {B : Hp}
theorem pair_new {B' H' : Hp} {p : Addr} {i : Nat} {v : V} {d : D} (e2 : Ex B' H') (hp : H' p = none) (n : Den c B' v d) : ∃ B'', Ex B' B'' ∧ Ex H' (upd H' p (.tup [.int (i : Nat), v])) ∧ (∀ σ ρ, Rel c σ B' H' ρ → Rel c σ B'' (upd H' p (.tup [.int (i : Nat), v])) ρ) ∧ Den c B'' (.ref p) (.tup [.int (i : Nat), d]) :=
  ⟨upd B' p (.tup [.int (i : Nat), v]), Ex.new (e2.free hp), Ex.new hp, fun σ ρ R => R.newB hp, .tup (.inl (.inl upd_same)) (.cons (.int _) (.cons (n.mono (Ex.new (e2.free hp))) .nil))⟩
theorem serves_enumL {a : Addr} {xs : List V} {ds : List D} (h : B a = some (.lst xs)) (r : Dens c B xs ds) : Serves c (Ite T.K a) B (numbered ds) := by
  intro B' H' e1 e2
  have hs : SqL T.K H' a xs := .inl (.inl (e2 _ _ (e1 _ _ h)))
  refine ⟨fun i hi => ⟨xs, hs, by rw [r.length]; rw [numbered_length] at hi; omega⟩, fun i d hd => ?_⟩
  obtain ⟨d0, hd0, rfl⟩ := numbered_get hd
  obtain ⟨v, hv, n⟩ := r.get hd0
  exact ⟨⟨xs, v, hs, hv⟩, fun x H'' ⟨p, y, ex, hp, eh, hx⟩ => by
    have := hx xs hs
    rw [hv] at this; cases this
    subst ex eh
    exact pair_new e2 hp (n.mono e1)⟩
theorem serves_enumT {a : Addr} {xs : List V} {ds : List D} (h : SqT T.K B a xs) (r : Dens c B xs ds) : Serves c (Ett T.K a) B (numbered ds) := by
  intro B' H' e1 e2
  have hs : SqT T.K H' a xs := e2.sqT (e1.sqT h)
  refine ⟨fun i hi => ⟨xs, hs, by rw [r.length]; rw [numbered_length] at hi; omega⟩, fun i d hd => ?_⟩
  obtain ⟨d0, hd0, rfl⟩ := numbered_get hd
  obtain ⟨v, hv, n⟩ := r.get hd0
  exact ⟨⟨xs, v, hs, hv⟩, fun x H'' ⟨p, y, ex, hp, eh, hx⟩ => by
    have := hx xs hs
    rw [hv] at this; cases this
    subst ex eh
    exact pair_new e2 hp (n.mono e1)⟩
end
theorem li_enum {T : Tx} {W : WX} {t : RE} : ∀ σ H R', liftI T W (iEnumD t) σ H R' → iEnumA T.K (tCons (liftE T W t) tNil) σ H R' := by
  rintro σ H R' ⟨c, B, ρ, x, Q, R, X, h, q⟩
  refine ⟨c, B, ρ, x, _, R, X, h, fun d g ρ1 v B1 H1 h1 e1 k1 R1 t1 => ?_⟩
  obtain ⟨B2, e2, R2, n2⟩ := leak_ok R1 t1
  cases n2 <;> first | exact h1.elim | skip
  case lst a xs ds hs np r => exact ⟨a, xs, rfl, .inl ⟨.inl (.inl (R2.ex _ _ hs)), q _ _ _ B2 H1 h1 (e1.trans e2) k1 R2 fun F => serves_enumL hs (Dens.ent _ _ r)⟩⟩
  case tup a xs ds hs r => exact ⟨a, xs, rfl, .inr ⟨R2.ex.sqT hs, q _ _ _ B2 H1 h1 (e1.trans e2) k1 R2 fun F => serves_enumT hs (Dens.ent _ _ r)⟩⟩
theorem qi_enum {X : Cx} {T : Tx} {W : WX} {e : Expr} {re : RE} {p pos tpos : Pos} {elts : List Expr} {kk : Nat} (hm : X.mg "enumerate" = none) (he : PE X e (liftE T W re)) (hK : X.K = T.K := by rfl) (hg : Gl X "enumerate" := by rfl) (hs : starEach [e] X.env = [(false, eval e X.env)] := by rfl) :
    PI X (.Tuple elts kk tpos) (.Call (.Name "enumerate" p) [e] [] pos) (liftI T W (iEnumD re)) := (pi_enumA hg hm (pa_cons he pa_nil hs) hs).imp (by rw [hK]; exact li_enum)
end Dc
set_option maxHeartbeats 1000000
namespace Dc
open PySem L2 PyProof.Rows PySem.W

structure B7 where
  non : Bool := false
  bl : Bool := false
  int : Bool := false
  str : Bool := false
  lst : Bool := false
  tup : Bool := false
  dic : Bool := false
def kindD (b : B7) (ob : Nat → Option Bool) : D → Option Bool
  | .non => some b.non
  | .bl _ => some b.bl
  | .int _ => some b.int
  | .str _ => some b.str
  | .lst _ => some b.lst
  | .tup _ => some b.tup
  | .dic _ => some b.dic
  | .obj k _ => ob k
  | _ => none
abbrev bTup : B7 := { tup := true }
abbrev bInt : B7 := { int := true, bl := true }
abbrev bBool : B7 := { bl := true }
def dIsi (g : D → Option Bool) (te : RE) : RE := fun x ρ Q => te x ρ fun d _ ρ1 => ∃ b, g d = some b ∧ Q (.bl b) .p ρ1
structure IsF (K : Frag) (T : Tx) (u : Value) (b : B7) (ob : Nat → Option Bool) : Prop where
  non : kitOne K (.type "NoneType") u = some b.non
  bl : kitOne K (.type "bool") u = some b.bl
  int : kitOne K (.type "int") u = some b.int
  str : kitOne K (.type "str") u = some b.str
  lst : kitOne K (.type "list") u = some b.lst
  tup : kitOne K (.type "tuple") u = some b.tup
  dic : kitOne K (.type "dict") u = some b.dic
  o : ∀ k b, ob k = some b → kitOne K (.ref (T.cl k)) u = some b ∧ SlX.SCls K (T.cl k) ∧ SlX.SIsi K (T.cl k)
def rIsiA (K : Frag) (u : Value) : List V → Hp → VK → Prop := fun xs H Q => rIsi K xs H Q ∨ SlX.rIsiSl K u xs H Q
theorem call_isiA {X : Cx} (u : Value) : CallR X (.builtin "isinstance") (rIsiA X.K u) := by
  intro pins s σ H xs us Q I r h
  rcases h with h | h
  · exact call_isi pins s σ H xs us Q I r h
  · exact SlX.call_isiSl u pins s σ H xs us Q I r h
theorem le_isi {T : Tx} {W : WX} {u : Value} {c0 : V} {base : B7} {ob : Nat → Option Bool} {te : RE} (hc : ClsV c0 u) (hf : IsF T.K T u base ob) : ∀ σ H Q', liftE T W (dIsi (kindD base ob) te) σ H Q' → tCB (rIsiA T.K u) (tCons (liftE T W te) (tCons (tC c0) tNil)) σ H Q' := by
  rintro σ H Q' ⟨c, B, ρ, x, Q, R, X, h, q⟩
  refine ⟨c, B, ρ, x, _, R, X, h, fun d g ρ1 v B1 H1 h1 e1 k1 R1 t1 => ?_⟩
  obtain ⟨b, hb, h1⟩ := h1
  have fin : Q' (.bl b) H1 := q _ _ _ _ B1 H1 h1 e1 k1 R1 (.p (.bl b))
  have tm := t1.tm R1
  have go : ∀ {t : String} {b' : Bool}, TyX T.K H1 v (.type t) → some b' = some b → kitOne T.K (.type t) u = some b' → rIsiA T.K u [v, c0] H1 Q' := fun {t b'} ty e hk => .inl ⟨v, c0, _, u, b, rfl, hc, ty, by rw [hk]; exact e, fin⟩
  cases d
  case non => have e := tm.non_; subst e; exact go (.base .non) hb hf.non
  case bl _ => have e := tm.bl_; subst e; exact go (.base (.bl _)) hb hf.bl
  case int _ => have e := tm.int_; subst e; exact go (.base (.int _)) hb hf.int
  case str _ => have e := tm.str_; subst e; exact go (.base (.str _)) hb hf.str
  case lst _ =>
    obtain ⟨a, xs, rfl, h, _⟩ := tm.list R1.ex
    exact go (.base (.lst h)) hb hf.lst
  case tup _ =>
    obtain ⟨a, xs, rfl, h, _⟩ := tm.tuple R1.ex
    refine go ?_ hb hf.tup
    rcases h with (h | ⟨o, h⟩) | ⟨o, _, _, h, hc, _⟩
    · exact .base (.tup h)
    · exact .fTuple h
    · exact .kTuple h hc
  case dic _ =>
    obtain ⟨a, xs, rfl, h, _⟩ := tm.dict R1.ex
    exact go (.base (.dK h)) hb hf.dic
  case obj k os =>
    obtain ⟨a, dx, xs, rfl, h, _⟩ := tm.obj_ R1.ex
    obtain ⟨h1, h2, h3⟩ := hf.o k b hb
    exact .inr ⟨a, _, dx, _, c0, b, rfl, (by cases hc <;> rfl), (fun w r => hc.eq r), h, h2, h3, h1, fin⟩
  all_goals cases hb
section
variable {X : Cx} {T : Tx} {W : WX} {e : Expr} {re : RE} {pos np p : Pos} {base : B7} {ob : Nat → Option Bool}
theorem qe_isiT {n : String} {x : Str} (hf : IsF T.K T (.type n) base ob) (hm : X.mg "isinstance" = none) (hmx : X.mg x = none) (hv : bootBuiltins x = some (.type n)) (he : PE X e (liftE T W re)) (hK : X.K = T.K := by rfl) (hg : Gl X "isinstance" := by rfl) (hgx : Gl X x := by rfl) (hnx : x ≠ "__name__" := by decide) (hdx : (x == ("__debug__" : Str)) = false := by decide)
    (hb : bootBuiltins "isinstance" = some (.builtin "isinstance") := by rfl) (hs1 : starEach (.Name x np :: []) X.env = (false, eval (.Name x np) X.env) :: starEach [] X.env := by rfl) (hs : starEach (e :: [.Name x np]) X.env = (false, eval e X.env) :: starEach [.Name x np] X.env := by rfl)
    (hpl : (backTo pos (starEach [.Name x np] X.env)).any (·.1) = false := by rfl) : PE X (.Call (.Name "isinstance" p) [e, .Name x np] [] pos) (liftE T W (dIsi (kindD base ob) re)) :=
  (pe_callB (call_isiA (.type n)) hg hm hb (pa_cons he (pa_cons (pe_bltn (v := .ty n) hgx hmx hv rfl hnx hdx) pa_nil hs1) hs) (by decide) (by decide) hs hpl).imp (by rw [hK]; exact le_isi (.ty n) hf)
theorem qe_isiC {C : Addr} {x : Str} (hf : IsF T.K T (.ref C) base ob) (hm : X.mg "isinstance" = none) (hmx : X.mg x = some (.ref C)) (he : PE X e (liftE T W re)) (hK : X.K = T.K := by rfl) (hg : Gl X "isinstance" := by rfl) (hgx : Gl X x := by rfl) (hdx : (x == ("__debug__" : Str)) = false := by decide)
    (hb : bootBuiltins "isinstance" = some (.builtin "isinstance") := by rfl) (hs1 : starEach (.Name x np :: []) X.env = (false, eval (.Name x np) X.env) :: starEach [] X.env := by rfl) (hs : starEach (e :: [.Name x np]) X.env = (false, eval e X.env) :: starEach [.Name x np] X.env := by rfl)
    (hpl : (backTo pos (starEach [.Name x np] X.env)).any (·.1) = false := by rfl) : PE X (.Call (.Name "isinstance" p) [e, .Name x np] [] pos) (liftE T W (dIsi (kindD base ob) re)) :=
  (pe_callB (call_isiA (.ref C)) hg hm hb (pa_cons he (pa_cons (pe_glob (v := .ref C) hgx hmx rfl hdx) pa_nil hs1) hs) (by decide) (by decide) hs hpl).imp (by rw [hK]; exact le_isi (.own C) hf)
end

def dFmt (te : RE) : RE := fun x ρ Q => te x ρ fun d _ ρ1 => match d with
  | .str y => y.length ≤ sizeLine ∧ Q (.str y) .p ρ1
  | .int i => i.natAbs.log2 < 1920 ∧ Q (.str (toString i)) .p ρ1
  | _ => False
def dJs : List RE → Str → RE
  | [], acc => fun _ ρ Q => Q (.str acc) .p ρ
  | t :: ts, acc => fun x ρ Q => t x ρ fun d _ ρ1 => match d with
    | .str y => (acc ++ y).length ≤ sizeLine ∧ dJs ts (acc ++ y) x ρ1 Q
    | _ => False
section
variable {T : Tx} {W : WX}
theorem le_fmt {te : RE} : ∀ σ H Q', liftE T W (dFmt te) σ H Q' → tFmt (liftE T W te) σ H Q' := by
  rintro σ H Q' ⟨c, B, ρ, x, Q, R, X, h, q⟩
  refine ⟨c, B, ρ, x, _, R, X, h, fun d g ρ1 v B1 H1 h1 e1 k1 R1 t1 => ?_⟩
  cases d <;> first | exact h1.elim | skip
  case str y => exact .inl ⟨y, (t1.tm R1).str_, h1.1, q _ _ _ _ B1 H1 h1.2 e1 k1 R1 (.p (.str _))⟩
  case int i => exact .inr ⟨i, (t1.tm R1).int_, h1.1, q _ _ _ _ B1 H1 h1.2 e1 k1 R1 (.p (.str _))⟩
theorem le_js : ∀ (ts : List RE) (acc : Str) σ H Q', liftE T W (dJs ts acc) σ H Q' → tJs (ts.map (liftE T W)) acc σ H fun out H1 => Q' (.str out) H1
  | [], acc, σ, H, Q', ⟨c, B, ρ, x, Q, R, X, h, q⟩ => q _ _ _ _ B H h Ex.rfl' ExP.rfl' R (.p (.str _))
  | t :: ts, acc, σ, H, Q', ⟨c, B, ρ, x, Q, R, X, h, q⟩ => by
    refine ⟨c, B, ρ, x, _, R, X, h, fun d g ρ1 v B1 H1 h1 e1 k1 R1 t1 => ?_⟩
    cases d <;> first | exact h1.elim | skip
    case str y => exact ⟨y, (t1.tm R1).str_, h1.1, le_js ts (acc ++ y) σ H1 Q' ⟨c, B1, ρ1, x, Q, R1, X.up e1, h1.2, fun d g ρ' v B' H' hQ e k R' t => q d g ρ' v B' H' hQ (e1.trans e) (k1.trans k) R' t⟩⟩
end
section
variable {X : Cx} {T : Tx} {W : WX} {e : Expr} {re : RE} {pos : Pos}
def QJ (X : Cx) (T : Tx) (W : WX) (es : List Expr) (ts : List RE) : Prop := PJ X es (ts.map (liftE T W))
theorem qj_nil : QJ X T W [] [] := .nil
theorem qj_cons {es : List Expr} {ts : List RE} (h : PE X e (liftE T W re)) (r : QJ X T W es ts) : QJ X T W (e :: es) (re :: ts) := .cons h r
theorem qe_fmt (he : PE X e (liftE T W re)) : PE X (.FormattedValue e (-1) none pos) (liftE T W (dFmt re)) := (pe_fmt he).imp le_fmt
theorem qe_js {v1 v2 : Expr} {rest : List Expr} {ts : List RE} (h : QJ X T W (v1 :: v2 :: rest) ts) : PE X (.JoinedStr (v1 :: v2 :: rest) pos) (liftE T W (dJs ts Str.empty)) := (pe_joined h).imp (le_js ts Str.empty)
end

def isStrD : D → Prop
  | .str _ => True
  | _ => False
def dM1 (f : FM) (to te : RE) : RE := fun x ρ Q => to x ρ fun d1 _ ρ1 => isStrD d1 ∧ te x ρ1 fun d2 _ ρ2 => f d1 [d2] fun d g => Q d g ρ2
def mSplit : FM
  | .str a, [.str b], k => (b.length == 0) = false ∧ a.length + 2 ≤ sizeLine ∧ k (.lst ((Txt.split a b).map D.str)) .f
  | _, _, _ => False
section
variable {X : Cx} {T : Tx}
variable {W : WX} {o e : Expr} {ro re : RE} {apos pos : Pos}
end

def dRev (te : RE) : RE := fun x ρ Q => te x ρ fun d _ ρ1 => match d with
  | .lst ds => Q (.lst ds.reverse) .f ρ1
  | _ => False
section
variable {T : Tx} {W : WX}
variable {X : Cx} {e o f : Expr} {re ro rf : RE} {pos apos cpos : Pos}
end
end Dc
set_option maxHeartbeats 1000000
namespace Dc
open PySem L2 PyProof.Rows PySem.W

def lawS (n : Nat) : Sps := fun ds Qd _ => ∃ ns : List Int, ds = [.scr ns] ∧ ns.length ≤ n ∧ (∀ z ∈ ns, Builtin.Int.intBits z ≤ 1048576) ∧ Qd (.bl true) false
theorem end_call {P : Program} {w : World} {T : Tx} {mg mb : Str → Option Value} {k n : Nat} {fa a : Addr} {fd : FuncData} {x : Str} {s1 : Shared} {vs : List Value} {ns : List Int} {cs : List (Addr × Addr × Str)}
    (KX : T.K.In s1.heap) (hns : s1.heap.Ns mainGlobals mg) (hb : s1.heap.Ns builtinsNs mb) (hbb : ∀ x : Str, x ≠ "__name__" → mb x = bootBuiltins x) (hlim : s1.heap.NoLimit) (hg : s1.gens = #[])
    (htb : T.tb = cs.map (·.2)) (hP : ∀ q ∈ cs, s1.heap.get? q.2.1 = some (tabObj #[])) (hC : ∀ q ∈ cs, CodeHd s1.heap q.1 q.2.1) (hKP : ∀ q ∈ cs, T.K.lookup q.2.1 = none)
    (hbm : ∃ (bm : Addr) (o : Obj), mg "__builtins__" = some (.ref bm) ∧ bm ≠ builtinsNs ∧ s1.heap.get? bm = some o ∧ o.cls = .type "module" ∧ o.dict = some builtinsNs ∧ o.data = .plain)
    (ha : s1.heap.get? a = some { cls := .type "list", data := .seq vs.toArray }) (hi : IntsAre vs ns) (hl : ns.length ≤ n) (hn : n ≤ sizeLine) (hbits : ∀ z ∈ ns, Builtin.Int.intBits z ≤ 1048576) (hr : Room k callerA)
    (F : ∀ base : Heap, T.K.In base → base.Ns mainGlobals mg → (∀ q ∈ cs, LamX.TabB base mg q.1 q.2.1) → FnG P w T.K mg base k fa fd [x] (spD T 1 (lawS n))) (hbind : ∀ (s : Shared) (u : Value), BindsTo s fd ⟨[u], []⟩ [(x, u)]) :
    codeAny (model P w) callerA (.call (.ref fa) ⟨[.ref a], []⟩) (fun r s' => r = .ok (.ret (.bool true)) ∧ OldK s1.heap s'.heap ∧ s'.os = s1.os ∧ AllBare s'.gens) s1 := by
  have rv := vals_ints hi
  have lenV := hi.length
  have hz : ns.length ≤ sizeLine := Nat.le_trans hl hn
  let tl : List Addr := cs.map fun q => q.2.1
  have tlP : ∀ b ∈ tl, s1.heap.get? b = some (tabObj #[]) ∧ T.K.lookup b = none := fun b hb => by
    obtain ⟨q, hq, rfl⟩ := List.mem_map.mp hb
    exact ⟨hP q hq, hKP q hq⟩
  have atl : a ∉ tl := fun z => by
    have e := (tlP a z).1
    rw [ha] at e
    have e2 := congrArg Obj.data (Option.some.inj e)
    cases e2
  -- a heap that tells of the script, perhaps, and of the tables
  suffices core : ∃ H : Hp, (∀ b u, H b = some u → (b = a ∧ u = .frz { cls := .type "list", data := .seq vs.toArray } (.lst (ns.map V.int)) ∧ T.K.lookup a = none) ∨ (b ∈ tl ∧ u = .tbl #[])) ∧ (∀ b ∈ tl, H b = some (.tbl #[])) ∧ SqL T.K H a (ns.map V.int) ∧ HOk P w H s1.heap by
    obtain ⟨H, only, hH, hS, hok⟩ := core
    have free : ∀ {b : Addr} {o : Obj}, s1.heap.get? b = some o → (b = a → T.K.lookup a = none → False) → o ≠ tabObj #[] → H b = none := fun {b o} e h1 h2 => by
      cases q : H b with
      | none => rfl
      | some u =>
        rcases only b u q with ⟨e1, _, e3⟩ | ⟨e1, _⟩
        · exact (h1 e1 e3).elim
        · have z := (tlP b e1).1
          rw [e] at z
          exact (h2 (Option.some.inj z)).elim
    have noList : ∀ {b : Addr} {o : Obj}, s1.heap.get? b = some o → (∀ xs m, o.data ≠ .seq xs m) → b = a → False := fun {b o} e h1 eb => by
      subst eb
      rw [ha] at e; cases e
      exact h1 _ _ rfl
    have nsB : ∀ {b : Addr} {m : Str → Option Value}, s1.heap.Ns b m → (hidT s1.heap H).Ns b m := fun {b m} ⟨o, es, ep, e, d, r⟩ =>
      ⟨o, es, ep, hidT_get e (free e (fun eb _ => noList e (fun xs m z => by rw [d] at z; cases z) eb) fun z => by rw [z] at d; cases d), d, r⟩
    have inB : T.K.In (hidT s1.heap H) := fun b o e => hidT_get (KX b o e) (by
      cases q : H b with
      | none => rfl
      | some u =>
        rcases only b u q with ⟨e1, _, e3⟩ | ⟨e1, _⟩
        · rw [e1, e3] at e; cases e
        · rw [(tlP b e1).2] at e; cases e)
    have hM : Mod T.K mg (hidT s1.heap H) := ⟨inB, nsB hns, ⟨mb, nsB hb, hbb⟩, let ⟨mc, h1, h2⟩ := hlim; ⟨mc, nsB h1, h2⟩⟩
    have tabs : ∀ q ∈ cs, LamX.TabB (hidT s1.heap H) mg q.1 q.2.1 := fun q hq => by
      refine ⟨?_, ?_, fun z => ?_⟩
      · obtain ⟨o, us, f1, f2, f3, f4, f5, f6, f7, e1, r1, r2, r3, rest⟩ := hC q hq
        refine ⟨o, us, f1, f2, f3, f4, f5, f6, f7, hidT_get e1 (free e1 (fun eb _ => noList e1 (fun xs m z => by rw [r2] at z; cases z) eb) fun z => ?_), r1, r2, r3, rest⟩
        rw [z] at r2
        cases r2
        simp at r3
      · obtain ⟨bm, o, b1, b2, b3, b4, b5, b6⟩ := hbm
        refine ⟨bm, o, b1, b2, fun z => ?_, fun z => ?_, hidT_get b3 (free b3 (fun eb _ => noList b3 (fun xs m z => by rw [b6] at z; cases z) eb) fun z => by rw [z] at b6; cases b6), b4, b5, b6⟩
        · obtain ⟨o2, es, ep, e, hd, _⟩ := hns
          rw [z, e] at b3
          cases b3
          rw [hd] at b6; cases b6
        · rw [z, hP q hq] at b3
          cases b3
          cases b6
      · obtain ⟨o2, es, ep, e, hd, _⟩ := hns
        rw [z, hP q hq] at e
        cases e
        cases hd
    have e0 : Env0 P w T.K mg (hidT s1.heap H) callerA [] s1 H := ⟨rfl, hM, fun b o e => of_hidT e, Nat.le_of_eq (hidT_size _ _), trivial, fun b hb => absurd (show b ∈ ([] : List Addr) from hb) (by simp), hok, .of_eq hg⟩
    let c0 : Dx T := ⟨none, H, fun _ => False⟩
    -- what is told at the start: the script
    let B0 : Hp := fun b => if b ∈ tl then none else H b
    have B0at : ∀ b, b ∉ tl → B0 b = H b := fun b hb => if_neg hb
    have tbl' : ∀ b, c0.wild b → b ∈ tl := fun b hb => by
      rcases hb with hb | hb
      · cases hb
      · obtain ⟨p, hp, rfl⟩ := List.mem_map.mp hb
        rw [htb] at hp
        obtain ⟨q, hq, rfl⟩ := List.mem_map.mp hp
        exact List.mem_map.mpr ⟨q, hq, rfl⟩
    have hold : Hold c0 B0 H := by
      refine ⟨fun b o hb => ?_, ⟨fun b hb => (by cases hb), fun p hp => ?_, fun b hb => if_pos (tbl' b hb), fun b ps hb => ?_⟩, fun b hb => hb.elim⟩
      · have hb : (if b ∈ tl then none else H b) = some o := hb
        split at hb
        · cases hb
        · exact hb
      · rw [htb] at hp
        obtain ⟨q, hq, rfl⟩ := List.mem_map.mp hp
        exact LamX.TabS.nil (hH _ (List.mem_map.mpr ⟨q, hq, rfl⟩))
      · rcases only b _ hb with ⟨_, e, _⟩ | ⟨e, _⟩
        · cases e
        · obtain ⟨q, hq, rfl⟩ := List.mem_map.mp e
          rw [htb, List.map_map]
          exact List.mem_map.mpr ⟨q, hq, rfl⟩
    have hS0 : SqL T.K B0 a (ns.map V.int) := by
      rcases hS with h | h
      · rcases h with h | ⟨o, h⟩
        · exact .inl (.inl ((B0at a atl).trans h))
        · exact .inl (.inr ⟨o, (B0at a atl).trans h⟩)
      · exact .inr h
    have want : spD T 1 (lawS n) [.ref a] H (fun v _ => v = .bl true) fun _ _ _ => False := by
      refine ⟨c0, B0, [.scr ns], fun d _ => d = .bl true, fun _ => False, rfl, hold, .cons (.scr hS0) .nil, rfl, ⟨ns, rfl, hl, hbits, rfl⟩, fun d o v B' H' hd _ _ _ ro => ?_, fun _ _ _ _ _ z => z.elim⟩
      subst hd
      cases ro with
      | p h => cases h; rfl
      | f _ h => cases h
    refine codeAny_mono ((F _ inB (nsB hns) tabs).run callerA [] s1 H ⟨[.ref a], []⟩ [.ref a] [.ref a] _ _ hr rfl e0 (hbind s1 (.ref a)) (.cons rfl .nil) want) fun r s' h => ?_
    cases r with
    | error e =>
      obtain ⟨_, _, _, _, _, _, _, _, _, _, _, _, z⟩ := h
      exact z.elim
    | ok fl =>
      cases fl with
      | next => exact False.elim h
      | brk => exact False.elim h
      | cont => exact False.elim h
      | ret u =>
        obtain ⟨v, H', os, bare, un, hok', r', q⟩ := h
        have q' : v = .bl true := q
        subst q'
        obtain rfl : u = Value.bool true := r'
        have same : ∀ b o, b ∉ tl → s1.heap.get? b = some o → s'.heap.get? b = some o := fun b o nb e => by
          cases q : H b with
          | none => exact un.keep b o e q (by intro z; exact absurd (show b ∈ ([] : List Addr) from z) (by simp)) (by simp)
          | some u =>
            rcases only b u q with ⟨_, rfl, _⟩ | ⟨z, _⟩
            · obtain ⟨e1, _⟩ := hok b _ q
              obtain ⟨e2, _⟩ := hok' b _ (un.frzs b _ _ q)
              rw [e] at e1; cases e1
              exact e2
            · exact (nb z).elim
        have more : ∀ b ∈ tl, ∃ xs : Array Value, s'.heap.get? b = some (tabObj xs) := fun b hb => by
          obtain ⟨xs, z⟩ := un.tbls b #[] (hH b hb)
          exact ⟨_, hok' b _ z⟩
        refine ⟨rfl, ⟨fun b o e => ?_, fun b o e => ?_⟩, os, bare⟩
        · by_cases hb : b ∈ tl
          · obtain ⟨xs, hx⟩ := more b hb
            obtain ⟨q, hq, rfl⟩ := List.mem_map.mp hb
            rw [hP q hq] at e
            cases e
            exact .inr (.inl ⟨((hC q hq).tab (hP q hq)).isCodeTable, rfl, #[], xs, rfl, by rw [Array.empty_append]; exact hx⟩)
          · exact .inl (same b o hb e)
        · by_cases hb : b ∈ tl
          · obtain ⟨xs, hx⟩ := more b hb
            exact ⟨_, hx⟩
          · exact ⟨o, same b o hb e⟩
  have okT : ∀ b ∈ tl, s1.heap.get? b = some { cls := .none, data := .fields #[] } := fun b hb => (tlP b hb).1
  cases hk : T.K.lookup a with
  | some o =>
    have e := KX a o hk
    rw [ha] at e
    cases e
    refine ⟨fun b => if b ∈ tl then some (.tbl #[]) else none, fun b u z => ?_, fun b hb => if_pos hb, .inr ⟨_, vs.toArray, _, hk, rfl, rfl, rfl, by rw [List.size_toArray, lenV]; exact hz, by simpa using rv⟩, fun b u z => ?_⟩
    all_goals
      by_cases hb : b ∈ tl
      · have z' := (if_pos hb).symm.trans z
        cases z'
        first
          | exact .inr ⟨hb, rfl⟩
          | exact okT b hb
      · cases (if_neg hb).symm.trans z
  | none =>
    refine ⟨fun b => if b = a then some (.frz { cls := .type "list", data := .seq vs.toArray } (.lst (ns.map V.int))) else if b ∈ tl then some (.tbl #[]) else none, fun b u z => ?_, fun b hb => ?_, .inl (.inr ⟨{ cls := .type "list", data := .seq vs.toArray }, if_pos rfl⟩), fun b u z => ?_⟩
    · by_cases eb : b = a
      · have z' := (if_pos eb).symm.trans z
        exact .inl ⟨eb, (Option.some.inj z').symm, rfl⟩
      · have z1 := (if_neg eb).symm.trans z
        by_cases hb : b ∈ tl
        · have z' := (if_pos hb).symm.trans z1
          cases z'
          exact .inr ⟨hb, rfl⟩
        · cases (if_neg hb).symm.trans z1
    · show (if b = a then _ else if b ∈ tl then some (HO.tbl #[]) else none) = _
      rw [if_neg (fun z : b = a => atl (by rw [← z]; exact hb)), if_pos hb]
    · by_cases eb : b = a
      · have z' := (if_pos eb).symm.trans z
        cases z'
        subst eb
        exact ⟨ha, by rw [List.length_map]; exact hz, vs, _, rv, ha⟩
      · have z1 := (if_neg eb).symm.trans z
        by_cases hb : b ∈ tl
        · have z' := (if_pos hb).symm.trans z1
          cases z'
          exact okT b hb
        · cases (if_neg hb).symm.trans z1
theorem walk_G {l : OpenLaw} {n k : Nat} {q : Program} {loose : List Str} {XP : (Str → Option Value) → Heap → Prop} {YP : World → Heap → Prop} {d : DefRec} {K : Params → Frag} {x : Str} (cs : List (Addr × Addr × Str))
    (hn : l.most = some n) (hn2 : n ≤ sizeLine) (hdf : d.params.defaults = []) (hr : Room k callerA) (hY : ∀ (w : World) (h : Heap), YP w h → (K w.params).In h ∧ ∀ t ∈ cs, h.get? t.2.1 = some (tabObj #[]))
    (hT : ∀ (p : Params), ∀ t ∈ cs, codeHdIn (K p) t.1 t.2.1 = true ∧ (K p).lookup t.2.1 = none)
    (F : ∀ (w : World) (mg : Str → Option Value) (fa : Addr) (h : Heap), (K w.params).In h → h.Ns mainGlobals mg → mg d.name = some (.ref fa) →
      ∃ (T : Tx) (fd : FuncData), T.K = K w.params ∧ T.tb = cs.map (·.2) ∧ (∀ (s : Shared) (u : Value), BindsTo s fd ⟨[u], []⟩ [(x, u)]) ∧ ∀ base : Heap, T.K.In base → base.Ns mainGlobals mg → (∀ t ∈ cs, LamX.TabB base mg t.1 t.2.1) → FnG l.prog w T.K mg base k fa fd [x] (spD T 1 (lawS n))) :
    WalkO q loose XP YP l.row.toRowW d [] (fun f vs => PySem.call f vs) := by
  refine Att.attach_callB hn hdf fun w s₀ s₁ mg mb fa o pm cd doc a vs ns G Y ho hd hcd hmg hobj hints hlen hbits hg => ?_
  obtain ⟨KX, hP⟩ := hY w _ Y
  obtain ⟨T, fd, hK, htb, hb, hF⟩ := F w mg fa _ KX G.T.g hmg
  exact end_call (by rw [hK]; exact KX) G.T.g G.T.b G.T.builtins G.T.nolimit hg htb hP (fun t ht => codeHd_of_K KX (hT _ t ht).1) (fun t ht => by rw [hK]; exact (hT _ t ht).2) G.T.bmain hobj hints hlen hn2 hbits hr hF hb

def rightS : Sps := fun ds Qd _ => ds = [.ptr] ∧ Qd (.bl true) false
def dTurn (pl : Int → Int → Int → Prop) (n : Nat) (sp : Sps) (rb : RA) : RE := fun x ρ Q => rb x ρ fun ds ρ1 => ds.length = n ∧ sp ds (fun d o => o = true ∧ (∃ i j k : Int, d = .lst [.int i, .int j, .int k] ∧ pl i j k) ∧ Q (.bl true) .p ρ1) (fun _ => False)
theorem le_turn {T : Tx} {W : WX} {n : Nat} {sp : Sps} {rb : RA} : ∀ σ H Q', liftE T W (dTurn T.pl n sp rb) σ H Q' → tCallS (spD T 1 rightS) (WE W) (tPos 1 (tCons (tCallS (spD T n sp) (WE W) (liftA T W rb)) tNil)) σ H Q' := by
  rintro σ H Q' ⟨c, B, ρ, x, Q, R, X, h, q⟩
  refine ⟨c, B, ρ, x, _, R, X, h, fun ds ρ1 vs B1 H1 h1 e1 k1 R1 t1 => ?_⟩
  refine ⟨callee c σ H1 ρ1, B1, ds, _, _, rfl, callee_hold R1, Dens.to (c := c) (c' := callee c σ H1 ρ1) rfl t1, h1.1, h1.2, fun d o v B2 H2 hq e2 k2 ho2 r2 => ?_, fun e cls dd B' H' hx _ _ _ _ => hx.elim⟩
  obtain ⟨rfl, ⟨i, j, k, rfl, hp⟩, hQ⟩ := hq
  cases r2 with
  | @f a _ m ow =>
    cases ow with
    | @lst xs _ ha rs =>
      cases rs with
      | cons n1 rs =>
        cases rs with
        | cons n2 rs =>
          cases rs with
          | cons n3 rs =>
            cases rs; cases n1; cases n2; cases n3
            have na : H1 a = none := m.h
            let F2 : Addr → Prop := fun b => c.fb b ∨ (∃ (i : Nat) (d : D), σ[i]? = some (some (V.ref b)) ∧ ρ1[i]? = some (Sl.own d)) ∨ c.pa = some b
            let c2 : Dx T := ⟨some a, H2, F2⟩
            have P2 : Pail c B2 H2 := ho2.pail
            -- what stood at the first call stands
            have keep2 : ∀ b o, H1 b = some o → ¬ c.wild b → H2 b = some o := fun b o hb hn => k2 b o hn hb
            have fbs : ∀ b, F2 b → (∃ o, lsd o ∧ H2 b = some o) ∧ B2 b = none ∧ (b ≠ a ∧ b ∉ T.tb.map (·.1)) ∧ ∃ o, H1 b = some o := fun b hb => by
              rcases hb with hb | hb | hb
              · obtain ⟨s1, s2, s3⟩ := ho2.fb b (.inl hb)
                obtain ⟨⟨o, _, ho⟩, _⟩ := R1.fb b hb
                exact ⟨s1, s2, ⟨ne_of_none ho na, fun z => s3 (.inr z)⟩, o, ho⟩
              · obtain ⟨i, d, w1, w2⟩ := hb
                obtain ⟨s1, s2, s3⟩ := ho2.fb b (.inr ⟨i, d, w1, w2⟩)
                obtain ⟨m1, o1⟩ := R1.ownB w1 w2
                obtain ⟨o, ho⟩ := o1.there
                exact ⟨s1, s2, ⟨ne_of_none ho na, fun z => s3 (.inr z)⟩, o, ho⟩
              · obtain ⟨x1, y1, w1, hx, r⟩ := P2.pa b hb
                obtain ⟨x2, y2, w2, hx2, _⟩ := R1.pail.pa b hb
                refine ⟨⟨_, .lst, hx⟩, P2.nb b (.inl hb), ⟨ne_of_none hx2 na, fun z => ?_⟩, _, hx2⟩
                obtain ⟨p, hp, ep⟩ := List.mem_map.mp z
                obtain ⟨ps, e1, _⟩ := P2.tb p hp
                rw [show p.1 = b from ep, hx] at e1
                cases e1
            have hold : Hold c2 B2 H2 := by
              refine ⟨ho2.ex, ⟨fun b hb => ?_, P2.tb, fun b hb => ?_, P2.only⟩, fun b hb => ?_⟩
              · cases hb
                exact ⟨i, j, k, ha, hp⟩
              · rcases hb with hb | hb
                · cases hb; exact m.b
                · exact P2.nb b (.inr hb)
              · obtain ⟨s1, s2, s3, _⟩ := fbs b hb
                exact ⟨s1, s2, fun z => by
                  rcases z with z | z
                  · exact s3.1 (Option.some.inj z).symm
                  · exact s3.2 z⟩
            have P3 : ∀ {B3 H3 : Hp}, Hold c2 B3 H3 → Pail c2 B3 H3 := fun h => h.pail
            refine ⟨rfl, c2, B2, [.ptr], fun d _ => d = .bl true, fun _ => False, rfl, hold, .cons (.ptr rfl) .nil, rfl, ⟨rfl, rfl⟩, fun d o v B3 H3 hd e3 k3 ho3 r3 => ?_, fun _ _ _ _ _ z => z.elim⟩
            subst hd
            have ev : v = .bl true := by
              cases r3 with
              | p h => cases h; rfl
              | f _ h => cases h
            subst ev
            have step : ∀ b o, (b ≠ a ∧ b ∉ T.tb.map (·.1)) → H2 b = some o → H3 b = some o := fun b o hb h => k3 b o (fun z => by
              rcases z with z | z
              · exact hb.1 (Option.some.inj z).symm
              · exact hb.2 z) h
            have kp : ExP c H1 H3 := fun b o hn hb => step b o ⟨ne_of_none hb na, fun z => hn (.inr z)⟩ (keep2 b o hb hn)
            have R3 : Rel c σ B3 H3 ρ1 := by
              refine R1.grow (e2.trans e3) ho3.ex kp ⟨fun b hb => ?_, (P3 ho3).tb, fun b hb => ?_, (P3 ho3).only⟩ (fun b d i w1 w2 => (ho3.fb b (.inr (.inl ⟨i, d, w1, w2⟩))).2.1) (fun b hb => (ho3.fb b (.inl hb)).2.1)
              · obtain ⟨x1, y1, w1, hx, r⟩ := P2.pa b hb
                exact ⟨x1, y1, w1, step b _ (fbs b (.inr (.inr hb))).2.2.1 hx, r⟩
              · rcases hb with hb | hb
                · exact (ho3.fb b (.inr (.inr hb))).2.1
                · exact (P3 ho3).nb b (.inr hb)
            exact q _ _ _ _ B3 H3 hQ (e1.trans (e2.trans e3)) (k1.trans kp) R3 (.p (.bl true))
theorem qe_turn {X : Cx} {T : Tx} {W : WX} {k k' n n' : Nat} {f f' : Addr} {fd fd' : FuncData} {ps ps' ks : List Str} {sp : Sps} {x x' : Str} {np np' pos pos' : Pos} {es : List Expr} {rs : RA}
    (F : FnG X.prog X.w X.K X.mg X.base k f fd ps (spD T 1 rightS)) (hr : Room k X.A) (hgu : X.A.guards = some []) (hm : X.mg x = some (.ref f)) (hk : keepIn X.K (.ref f) = true) (hb : KB X.K fd ps 1 [])
    (F' : FnG X.prog X.w X.K X.mg X.base k' f' fd' ps' (spD T n sp)) (hr' : Room k' X.A) (hm' : X.mg x' = some (.ref f')) (hk' : keepIn X.K (.ref f') = true) (hb' : KB X.K fd' ps' n' ks)
    (tk : Takes X W) (ha : PCs X es [] pos' n' ks (liftA T W rs)) (hg : Gl X x := by rfl) (hdb : (x == ("__debug__" : Str)) = false := by decide) (hg' : Gl X x' := by rfl) (hdb' : (x' == ("__debug__" : Str)) = false := by decide)
    (hs : starEach (.Call (.Name x' np') es [] pos' :: []) X.env = (false, eval (.Call (.Name x' np') es [] pos') X.env) :: starEach [] X.env := by rfl) (hpl : (backTo pos (starEach [] X.env)).any (·.1) = false := by rfl) :
    PE X (.Call (.Name x np) [.Call (.Name x' np') es [] pos'] [] pos) (liftE T W (dTurn T.pl n sp rs)) :=
  (pe_fG F hr hgu hm hk hb tk (pcs_pos (pa_cons (pe_fG F' hr' hgu hm' hk' hb' tk ha hg' hdb') pa_nil hs) hs hpl) hg hdb).imp le_turn
end Dc
set_option maxHeartbeats 1000000
namespace Dc
open PySem L2 PyProof.Rows PySem.W

def wellP (x y z : Int) : Prop := 0 ≤ x ∧ x < 2147483648 ∧ 0 ≤ y ∧ 0 ≤ z
def castS : Sps := fun ds Qd _ => ∃ m : Int, ds = [.ptr, .int m] ∧ 0 < m ∧ m < 1073741824 ∧ ∀ r : Int, 0 ≤ r → r < m → Qd (.int r) false
abbrev aI (K : Frag) (i : Int) : TE := tOp (rIxL K) (tVar 0) (tC (.int i))
abbrev rAddI : R2 := rI0 fun i j => .int (i + j)
abbrev rMulI : R2 := rI CMul fun i j => .int (i * j)
abbrev rModI : R2 := rI (fun _ j => 0 < j) fun i j => .int (i % j)
abbrev rDivI : R2 := rI CDiv fun i j => .int (i / j)
abbrev rIntI : List V → Hp → VK → Prop := fun xs H Q => (∃ i, xs = [.int i] ∧ Q (.int i) H) ∨ ∃ k, xs = [.bl k] ∧ Q (.int (if k then 1 else 0)) H
abbrev rDmI : List V → Hp → VK → Prop := fun xs H Q => ∃ i j, xs = [.int i, .int j] ∧ CDivP i j ∧ ∀ p, H p = none → Q (.ref p) (upd H p (.tup [.int (i / j), .int (i % j)]))
abbrev gP (i : Int) : TG := gSub (tVar 0) (tC (.int i)) rSetL
abbrev tI1 (t : TE) : TE := tCB rIntI (tCons t tNil)
abbrev cI (i : Int) : TE := tC (.int i)
abbrev castHead (K : Frag) (i : Int) (j : Nat) : TS := tIfS (tTest (tOp (rI0 fun i j => .bl (decide (j < i))) (aI K i) (cI 0))) (tSeq (tAsg (tCB rDmI (tCons (aI K i) (tCons (tVar 1) tNil))) (gTup K 2 (gCons (gP i) (gCons (gName j) gNil)))) (tSeq (tRet (tVar j)) tNext)) tNext
abbrev drawT (K : Frag) : TS := tSeq (castHead K 2 2)
  (tSeq (tAsg (tOp rAddI (aI K 1) (cI 1)) (gP 1))
  (tSeq (tAsg (tI1 (aI K 0)) (gName 3))
  (tSeq (tAsg (tOp rModI (tI1 (tOp rAddI (tOp rAddI (tOp rMulI (tVar 3) (cI 44017)) (tOp rMulI (aI K 1) (cI 52009))) (cI 53))) (cI 2147483629)) (gP 0))
  (tSeq (tRet (tOp rModI (tI1 (tOp rDivI (aI K 0) (cI 2048))) (tVar 1))) tNext))))
def After (H H' : Hp) (a : Addr) (xs : List V) : Prop := H' a = some (.lst xs) ∧ (∀ b o, b ≠ a → H b = some o → H' b = some o) ∧ ∀ b ps, H' b = some (.tbl ps) → H b = some (.tbl ps)
theorem After.put {H : Hp} {a : Addr} {xs ys : List V} {H1 : Hp} (h : After H H1 a xs) : After H (upd H1 a (.lst ys)) a ys := ⟨upd_same, fun b o n e => by rw [upd_ne n]; exact h.2.1 b o n e, fun b ps e => by
  by_cases n : b = a
  · rw [n, upd_same] at e; cases e
  · rw [upd_ne n] at e; exact h.2.2 b ps e⟩
section
variable {K : Frag} {a : Addr} {m : Int} {D : Ends} {H : Hp}
theorem small_r {i j : Int} (h1 : -1000000 < j) (h2 : j < 4294967296) : CMul i j := .inr ⟨Int.lt_trans (by decide) h1, Int.lt_trans h2 (by decide)⟩
theorem divp_small {i j : Int} (h1 : 0 < j) (h2 : j < 1073741824) : CDivP i j := ⟨h1, PyProof.noPylong_small (by omega)⟩
theorem mod_lt {r m : Int} (h : 0 < m) : 0 ≤ r % m ∧ r % m < m := ⟨Int.emod_nonneg _ (by omega), Int.emod_lt_of_pos _ h⟩
theorem castHead_ok {i : Int} {k : Nat} {xs : List V} {x : Int} {w1 w2 : Option V} (hH : H a = some (.lst xs)) (hi : ixN xs.length i = some k) (hk : xs[k]? = some (.int x)) (hm : 0 < m) (hm2 : m < 1073741824)
    (h1 : 0 < x → ∀ H', After H H' a (xs.set k (.int (x / m))) → D.rt (.int (x % m)) H') (h2 : ¬ 0 < x → D.nx [some (.ref a), some (.int m), w1, w2] H) : castHead K i 2 D [some (.ref a), some (.int m), w1, w2] H := by
  have hat : atI xs i = some (.int x) := by unfold atI; rw [hi]; exact hk
  refine ⟨.ref a, rfl, a, xs, i, .int x, rfl, rfl, .inl (.inl hH), hat, x, 0, rfl, rfl, decide (0 < x), rfl, ?_⟩
  by_cases hx : 0 < x
  · rw [decide_eq_true hx]
    refine L2.iteT ?_
    refine ⟨.ref a, rfl, a, xs, i, .int x, rfl, rfl, .inl (.inl hH), hat, .int m, rfl, x, m, rfl, divp_small hm hm2, fun p hp => ?_⟩
    have ne : a ≠ p := ne_of_none hH hp
    refine ⟨p, _, rfl, .inl (.inl upd_same), rfl, .int (x / m), _, rfl, .ref a, rfl, a, xs, i, k, rfl, rfl, by rw [upd_ne ne]; exact hH, hi, .int (x % m), _, rfl, rfl, ?_⟩
    refine ⟨.int (x % m), rfl, h1 hx _ ⟨upd_same, fun b o n e => ?_, fun b ps e => ?_⟩⟩
    · rw [upd_ne n, upd_ne (ne_of_none e hp)]; exact e
    · by_cases n : b = a
      · rw [n, upd_same] at e; cases e
      · rw [upd_ne n] at e
        by_cases n2 : b = p
        · rw [n2, upd_same] at e; cases e
        · rw [upd_ne n2] at e; exact e
  · rw [decide_eq_false hx]
    exact L2.iteF (h2 hx)
theorem draw_ok {x y z : Int} {w1 w2 : Option V} (hH : H a = some (.lst [.int x, .int y, .int z])) (hp : wellP x y z) (hm : 0 < m) (hm2 : m < 1073741824)
    (q : ∀ r x' y' z' H', 0 ≤ r → r < m → wellP x' y' z' → After H H' a [.int x', .int y', .int z'] → D.rt (.int r) H') : drawT K D [some (.ref a), some (.int m), w1, w2] H := by
  obtain ⟨h1, h2, h3, h4⟩ := hp
  refine castHead_ok (x := z) (k := 2) hH rfl rfl hm hm2 (fun hx H' af => ?_) fun _ => ?_
  · exact q _ x y (z / m) H' (mod_lt hm).1 (mod_lt hm).2 ⟨h1, h2, h3, Int.ediv_nonneg h4 (by omega)⟩ af
  · have A0 : After H H a [.int x, .int y, .int z] := ⟨hH, fun _ _ _ e => e, fun _ _ e => e⟩
    refine ⟨.ref a, rfl, a, _, 1, .int y, rfl, rfl, .inl (.inl hH), rfl, y, 1, rfl, rfl, .ref a, rfl, a, _, 1, 1, rfl, rfl, hH, rfl, ?_⟩
    have A1 : After H _ a [.int x, .int (y + 1), .int z] := A0.put
    refine ⟨.ref a, rfl, a, _, 0, .int x, rfl, rfl, .inl (.inl A1.1), rfl, .inl ⟨x, rfl, ?_⟩⟩
    refine ⟨.int x, rfl, x, 44017, rfl, rfl, small_r (by decide) (by decide), .ref a, rfl, a, _, 1, .int (y + 1), rfl, rfl, .inl (.inl A1.1), rfl, y + 1, 52009, rfl, rfl, small_r (by decide) (by decide), _, _, rfl, rfl, _, 53, rfl, rfl, .inl ⟨_, rfl, _, 2147483629, rfl, rfl, by show (0 : Int) < 2147483629; decide, ?_⟩⟩
    have b := fun r : Int => mod_lt (r := r) (m := 2147483629) (by decide)
    refine ⟨.ref a, rfl, a, _, 0, 0, rfl, rfl, A1.1, rfl, ?_⟩
    refine ⟨.ref a, rfl, a, _, 0, .int _, rfl, rfl, .inl (.inl upd_same), rfl, _, 2048, rfl, rfl, ⟨by decide, by decide⟩, .inl ⟨_, rfl, .int m, rfl, _, m, rfl, rfl, hm, ?_⟩⟩
    exact q _ _ (y + 1) z _ (mod_lt hm).1 (mod_lt hm).2 ⟨(b _).1, Int.lt_trans (b _).2 (by decide), by omega, h4⟩ A1.put
end
theorem cast_spD {T : Tx} {vs : List V} {H : Hp} {Q : VK} {E : XK} (h : spD T 2 castS vs H Q E) : ∃ (a : Addr) (m x y z : Int), vs = [.ref a, .int m] ∧ H a = some (.lst [.int x, .int y, .int z]) ∧ T.pl x y z ∧ 0 < m ∧ m < 1073741824 ∧
    ∀ r x' y' z' H', 0 ≤ r → r < m → T.pl x' y' z' → After H H' a [.int x', .int y', .int z'] → Q (.int r) H' := by
  obtain ⟨c, B, ds, Qd, xd, rfl, ho, rr, hl, ⟨m, rfl, h1, h2, h3⟩, q, _⟩ := h
  cases rr with
  | cons n1 rr =>
    cases rr with
    | cons n2 rr =>
      cases rr; cases n2
      cases n1 with
      | @ptr a ha =>
        have P0 : Pail c B c.H0 := ho.pail
        obtain ⟨x, y, z, hx, hp⟩ := P0.pa a ha
        refine ⟨a, m, x, y, z, rfl, hx, hp, h1, h2, fun r x' y' z' H' r0 r1 hp' af => ?_⟩
        have nl : ∀ b, (∃ o, c.H0 b = some o ∧ ∀ xs, o ≠ .lst xs) → b ≠ a := fun b ⟨o, hb, n⟩ e => by
          rw [e, hx] at hb
          exact n _ (Option.some.inj hb).symm
        have kp : ExP c c.H0 H' := fun b o hn hb => af.2.1 b o (fun e => hn (.inl (by rw [e]; exact ha))) hb
        refine q _ _ _ B H' (h3 r r0 r1) Ex.rfl' kp ⟨fun b o hb => ?_, ⟨fun b hb => ?_, fun t ht => ?_, P0.nb, fun b ps hb => P0.only b ps (af.2.2 b ps hb)⟩, fun b hb => ?_⟩ (.p (.int r))
        · exact af.2.1 b o (ne_of_none hb (P0.nb a (.inl ha))) (ho.ex b o hb)
        · rw [ha] at hb; cases hb
          exact ⟨x', y', z', af.1, hp'⟩
        · obtain ⟨ps, e1, e2, e3⟩ := P0.tb t ht
          refine ⟨ps, af.2.1 _ _ (nl _ ⟨_, e1, fun xs z => by cases z⟩) e1, e2, fun pos cv hc => ?_⟩
          obtain ⟨u, r1, r2⟩ := e3 pos cv hc
          exact ⟨u, r1, af.2.1 _ _ (nl _ ⟨_, r2, fun xs z => by unfold LamX.CodeO at z; cases z⟩) r2⟩
        · obtain ⟨⟨o, lo, h⟩, h2, h3⟩ := ho.fb b hb
          exact ⟨⟨o, lo, af.2.1 b o (fun e => h3 (.inl (by rw [e]; exact ha))) h⟩, h2, h3⟩
end Dc
set_option maxHeartbeats 1000000
namespace Dc
open PySem L2 PyProof.Rows PySem.W

def iAnyT (K : Frag) (tl : TE) : TI := fun σ H R => tl σ H fun x H1 => (∃ a, x = .ref a ∧ (∃ xs, SqL K H1 a xs) ∧ R (Itl K a) H1) ∨ (∃ a, x = .ref a ∧ (∃ xs, SqT K H1 a xs) ∧ R (Itt K a) H1) ∨ ∃ z, x = .str z ∧ R (Its z) H1
theorem pi_any {X : Cx} {tg l : Expr} {tl : TE} (hl : PE X l tl) : PI X tg l (iAnyT X.K tl) := by
  refine ⟨fun pins s σ H R I h => ?_⟩
  refine thn (hl.run pins s σ H _ I h) fun v s1 ⟨x, H1, I1, r1, q1⟩ => ?_
  rcases q1 with ⟨a, e, ⟨xs, hq⟩, q⟩ | ⟨a, e, ⟨xs, hq⟩, q⟩ | ⟨z, e, q⟩
  · subst e
    cases r1
    obtain ⟨its, rv, p, hz⟩ := I1.list hq
    exact wpAny_pyIter_list p.isList (pi_one (tk := s1.toks) I1 _ (turn_list a _) ⟨_, Heap.get?_push_size _ rfl, rfl, rfl⟩ q)
  · subst e
    cases r1
    obtain ⟨its, rv, p, hz⟩ := I1.tuple hq
    exact wpAny_pyIter_tuple (show s1.heap.IsTuple a its.toArray from p) (pi_one (tk := s1.toks) I1 _ (turn_tuple a _) ⟨_, Heap.get?_push_size _ rfl, rfl, rfl⟩ q)
  · subst e
    obtain ⟨t, rfl⟩ := r1
    cases ha : z.cps.all (· < 128)
    · exact wpAny_pyIter_wide ha (pi_one (tk := s1.toks) I1 _ (turn_str _ z t "str_iterator" (.inr rfl)) ⟨_, Heap.get?_push_size _ rfl, rfl, rfl⟩ q)
    · exact wpAny_pyIter_ascii ha (pi_one (tk := s1.toks) I1 _ (turn_str _ z t "str_ascii_iterator" (.inl rfl)) ⟨_, Heap.get?_push_size _ rfl, rfl, rfl⟩ q)
def iAny (t : RE) : RI := fun x ρ Q => t x ρ fun d g ρ1 => match d with
  | .lst ds => Q ds (leak d g ρ1)
  | .tup ds => Q ds (leak d g ρ1)
  | .str z => Q (signs z) ρ1
  | _ => False
theorem serves_str {T : Tx} {c : Dx T} {B : Hp} {z : Str} : Serves c (Its z) B (signs z) := by
  intro B' H' e1 e2
  have hl : (signs z).length = z.cps.size := by simp [signs]
  refine ⟨fun i hi => by show z.cps.size ≤ i; omega, fun i d hd => ?_⟩
  unfold signs at hd
  rw [List.getElem?_map] at hd
  cases e : z.cps.toList[i]? with
  | none => rw [e] at hd; cases hd
  | some c0 =>
    rw [e] at hd
    have hd : D.str ⟨#[c0]⟩ = d := Option.some.inj hd
    subst hd
    have e' : z.cps[i]? = some c0 := by simpa using e
    refine ⟨?_, fun x H'' ⟨eh, c1, hc, hx⟩ => ⟨B', Ex.rfl', by rw [eh]; exact Ex.rfl', fun σ ρ R => by rw [eh]; exact R, ?_⟩⟩
    · show i < z.cps.size
      exact (Array.getElem?_eq_some_iff.mp e').1
    · rw [e'] at hc; cases hc
      rw [hx]; exact .str _
theorem li_any {T : Tx} {W : WX} {t : RE} : ∀ σ H R', liftI T W (iAny t) σ H R' → iAnyT T.K (liftE T W t) σ H R' := by
  rintro σ H R' ⟨c, B, ρ, x, Q, R, X, h, q⟩
  refine ⟨c, B, ρ, x, _, R, X, h, fun d g ρ1 v B1 H1 h1 e1 k1 R1 t1 => ?_⟩
  obtain ⟨B2, e2, R2, n2⟩ := leak_ok R1 t1
  cases n2 <;> first | exact h1.elim | skip
  case str z =>
    refine .inr (.inr ⟨_, rfl, ?_⟩)
    exact q _ _ _ B1 H1 h1 e1 k1 R1 fun F => serves_str
  case tup a xs ds hs r => exact .inr (.inl ⟨a, rfl, ⟨xs, R2.ex.sqT hs⟩, q _ _ _ B2 H1 h1 (e1.trans e2) k1 R2 fun F => serves_tup hs (Dens.ent _ _ r)⟩)
  case lst a xs ds hs np r => exact .inl ⟨a, rfl, ⟨xs, .inl (.inl (R2.ex _ _ hs))⟩, q _ _ _ B2 H1 h1 (e1.trans e2) k1 R2 fun F => serves_list hs (Dens.ent _ _ r)⟩
theorem qi_any {X : Cx} {T : Tx} {W : WX} {tg e : Expr} {re : RE} (he : PE X e (liftE T W re)) (hK : X.K = T.K := by rfl) : PI X tg e (liftI T W (iAny re)) := (pi_any he).imp (by rw [hK]; exact li_any)
theorem takes0 {X : Cx} : Takes X W0 := fun u s' ⟨_, _, _, _, _, _, _, _, _, _, _, _, _, _, _, _, w⟩ => w.elim

section
variable {x : XQ} {ρ : Env} {Q : EQ} {QA : List D → Env → Prop} {QT : Bool → Env → Prop} {QI : List D → Env → Prop} {QO : Option Int → Env → Prop} {k : Kd} {i j n m : Nat} {ta tb tc : RE} {ra rb : RA} {rt ru : RT} {ri : RI} {d e : D} {f : F2} {f1 : F1} {fn : FN} {g : RG} {gs : RGs} {s t : RS}
@[simp] theorem oaa (h : ρ[i]? = some (.sh d)) {q : D → Tag → Prop} : slot ρ i q = q d .p := by unfold slot; rw [h]
@[simp] theorem oab (h : ρ[i]? = some (.own d)) {q : D → Tag → Prop} : slot ρ i q = q d (.b i) := by unfold slot; rw [h]
@[simp] theorem oac : dVar i x ρ Q = slot ρ i fun d g => Q d g ρ := rfl
@[simp] theorem oad : dC d x ρ Q = Q d .p ρ := rfl
@[simp] theorem oae : dOp f ta tb x ρ Q = ta x ρ fun d1 _ ρ1 => tb x ρ1 fun d2 _ ρ2 => f d1 d2 fun d g => Q d g ρ2 := rfl
@[simp] theorem oaf : dUn f1 ta x ρ Q = ta x ρ fun d1 _ ρ1 => f1 d1 fun d g => Q d g ρ1 := rfl
@[simp] theorem oag : dNil x ρ QA = QA [] ρ := rfl
@[simp] theorem oah : dCons ta ra x ρ QA = ta x ρ fun d g ρ1 => ra x (leak d g ρ1) fun ds ρ2 => QA (d :: ds) ρ2 := rfl
@[simp] theorem oai : dConsB ta ra x ρ QA = ta x ρ fun d _ ρ1 => ra x ρ1 fun ds ρ2 => QA (d :: ds) ρ2 := rfl
@[simp] theorem oaj : dStar ta ra x ρ QA = ta x ρ fun d _ ρ1 => items d fun es => ra x ρ1 fun ds ρ2 => QA (es ++ ds) ρ2 := rfl
@[simp] theorem oak {ds : List D} {q : List D → Prop} : items (.lst ds) q = q ds := rfl
@[simp] theorem oam {ds : List D} {q : List D → Prop} : items (.tup ds) q = q ds := rfl
@[simp] theorem oan : dTup ra x ρ Q = ra x ρ fun ds ρ1 => ds.length ≤ sizeLine ∧ Q (.tup ds) .p ρ1 := rfl
@[simp] theorem oap : dLst ra x ρ Q = ra x ρ fun ds ρ1 => ds.length ≤ sizeLine ∧ Q (.lst ds) .f ρ1 := rfl
@[simp] theorem oaq : dCall fn ra x ρ Q = ra x ρ fun ds ρ1 => fn ds fun d g => Q d g ρ1 := rfl
@[simp] theorem oar : dIf rt ta tb x ρ Q = rt x ρ fun b ρ1 => if b = true then ta x ρ1 Q else tb x ρ1 Q := rfl
@[simp] theorem oas {b : Bool} {q : Bool → Prop} : blOf (.bl b) q = q b := rfl
@[simp] theorem oat : dAndV ta tb x ρ Q = ta x ρ fun d _ ρ1 => blOf d fun b => if b = true then tb x ρ1 Q else Q (.bl false) .p ρ1 := rfl
@[simp] theorem oau : dOrV ta tb x ρ Q = ta x ρ fun d _ ρ1 => blOf d fun b => if b = true then Q (.bl true) .p ρ1 else tb x ρ1 Q := rfl
@[simp] theorem oav : dNotV ta x ρ Q = ta x ρ fun d _ ρ1 => blOf d fun b => Q (.bl (!b)) .p ρ1 := rfl
@[simp] theorem oaw : dTest ta x ρ QT = ta x ρ fun d _ ρ1 => blOf d fun b => QT b ρ1 := rfl
@[simp] theorem oax : dAnd rt ru x ρ QT = rt x ρ fun b ρ1 => if b = true then ru x ρ1 QT else QT false ρ1 := rfl
@[simp] theorem oay : dOr rt ru x ρ QT = rt x ρ fun b ρ1 => if b = true then QT true ρ1 else ru x ρ1 QT := rfl
@[simp] theorem oaz : dNot rt x ρ QT = rt x ρ fun b ρ1 => QT (!b) ρ1 := rfl
@[simp] theorem oba : dTruth ta x ρ QT = ta x ρ fun d _ ρ1 => truth d fun b => QT b ρ1 := rfl
@[simp] theorem obb : dYes x ρ QT = QT true ρ := rfl
@[simp] theorem obc {f' : F2} : dChain f f' ta tb tc x ρ Q = ta x ρ fun d1 _ ρ1 => tb x ρ1 fun d2 _ ρ2 => f d1 d2 fun d _ => blOf d fun b => if b = true then tc x ρ2 fun d3 _ ρ3 => f' d2 d3 fun d t => Q d t ρ3 else Q (.bl false) .p ρ2 := rfl
@[simp] theorem obd {sp : Sps} : dOwn n sp ra x ρ Q = ra x ρ fun ds ρ1 => ds.length = n ∧ sp ds (fun d o => Q d (if o = true then .f else .p) ρ1) (fun e => x e ρ1) := rfl
@[simp] theorem obe : dPos n ra x ρ QA = ra x ρ fun ds ρ1 => ds.length = n ∧ QA ds ρ1 := rfl
@[simp] theorem obf : dKw n m ra rb x ρ QA = ra x ρ fun ds ρ1 => rb x ρ1 fun es ρ2 => ds.length = n ∧ es.length = m ∧ QA (ds ++ es) ρ2 := rfl
@[simp] theorem obg {os : List D} {q : List D → Prop} : asObj n (.obj m os) q = (m = n ∧ q os) := rfl
@[simp] theorem obh {sp : Sps} : dMeth n m sp ta ra x ρ Q = ta x ρ fun d _ ρ1 => asObj n d fun os => ra x ρ1 fun es ρ2 => es.length + 1 = m ∧ sp (.obj n os :: es) (fun d o => Q d (tagO o) ρ2) (fun e => x e ρ2) := rfl
@[simp] theorem obi {C : Addr} {sp : Sps} : dCm C n sp ra x ρ Q = ra x ρ fun es ρ2 => es.length + 1 = n ∧ sp (.adr C :: es) (fun d o => Q d (tagO o) ρ2) (fun e => x e ρ2) := rfl
@[simp] theorem obk {sp : Sps} : dProp n sp ta x ρ Q = ta x ρ fun d _ ρ1 => asObj n d fun os => sp [.obj n os] (fun d o => Q d (tagO o) ρ1) (fun _ => False) := rfl
@[simp] theorem obm : dSl n i ta x ρ Q = ta x ρ fun d _ ρ1 => asObj n d fun os => nth i os fun e => Q e .p ρ1 := rfl
@[simp] theorem obn {ds : List D} {q : D → Prop} : nth i ds q = (match ds[i]? with | some e => q e | none => False) := rfl
@[simp] theorem obp {sp : SpsI} : dMake n m sp ra x ρ Q = ra x ρ fun ds ρ1 => ds.length + 1 = m ∧ sp ds (fun os => Q (.obj n os) .p ρ1) (fun e => x e ρ1) := rfl
@[simp] theorem obq : tagO true = .f := rfl
@[simp] theorem obr : tagO false = .p := rfl
@[simp] theorem obs {f : FS} {rl rh : RO} : dSlice f ta rl rh x ρ Q = ta x ρ fun d _ ρ1 => rl x ρ1 fun l ρ2 => rh x ρ2 fun u ρ3 => f d l u fun d g => Q d g ρ3 := rfl
@[simp] theorem obt : oNo x ρ QO = QO none ρ := rfl
@[simp] theorem obu : oSo ta x ρ QO = ta x ρ fun d _ ρ1 => intOf d fun i => QO (some i) ρ1 := rfl
@[simp] theorem obv {z : Int} {q : Int → Prop} : intOf (.int z) q = q z := rfl
@[simp] theorem obw {h : D → Option Bool} : dIsi h ta x ρ Q = ta x ρ fun d _ ρ1 => ∃ b, h d = some b ∧ Q (.bl b) .p ρ1 := rfl
@[simp] theorem obx : dFmt ta x ρ Q = ta x ρ fun d _ ρ1 => match d with
  | .str y => y.length ≤ sizeLine ∧ Q (.str y) .p ρ1
  | .int i => i.natAbs.log2 < 1920 ∧ Q (.str (toString i)) .p ρ1
  | _ => False := rfl
@[simp] theorem oby {acc : Str} : dJs [] acc x ρ Q = Q (.str acc) .p ρ := rfl
@[simp] theorem obz {ts : List RE} {acc : Str} : dJs (ta :: ts) acc x ρ Q = ta x ρ fun d _ ρ1 => match d with
    | .str y => (acc ++ y).length ≤ sizeLine ∧ dJs ts (acc ++ y) x ρ1 Q
    | _ => False := rfl
@[simp] theorem oca {h : FM} : dM1 h ta tb x ρ Q = ta x ρ fun d1 _ ρ1 => isStrD d1 ∧ tb x ρ1 fun d2 _ ρ2 => h d1 [d2] fun d g => Q d g ρ2 := rfl
@[simp] theorem ocb {so : Sps} : dCall1 fn so ta x ρ Q = ta x ρ fun d g ρ1 => match d with
  | .obj k os => so [.obj k os] (fun e o => Q e (tagO o) ρ1) (fun _ => False)
  | d => fn [d] fun e g => Q e g ρ1 := rfl
@[simp] theorem occ : sNext k ρ = k.nx ρ := rfl
@[simp] theorem ocd : sSeq s t k ρ = s { k with nx := t k } ρ := rfl
@[simp] theorem oce : sBreak k ρ = k.bk ρ := rfl
@[simp] theorem ocf : sCont k ρ = k.ct ρ := rfl
@[simp] theorem ocg : sRet ta k ρ = ta k.ex ρ k.rt := rfl
@[simp] theorem och : sRetN k ρ = k.rt .non .p ρ := rfl
@[simp] theorem oci : sDrop ta k ρ = ta k.ex ρ fun _ _ ρ1 => k.nx ρ1 := rfl
@[simp] theorem ocj : sIf rt s t k ρ = rt k.ex ρ fun x ρ1 => if x = true then s k ρ1 else t k ρ1 := rfl
@[simp] theorem ock : sSet i ta k ρ = ta k.ex ρ fun d g ρ1 => k.nx (put i d g ρ1) := rfl
@[simp] theorem ocm : sAsg ta g k ρ = ta k.ex ρ fun d t ρ1 => g d (leak d t ρ1) k.nx := rfl
@[simp] theorem ocn : put i d .p ρ = ρ.set i (.sh d) := rfl
@[simp] theorem ocp : put i d .f ρ = ρ.set i (.own d) := rfl
@[simp] theorem ocq : put i d (.b j) ρ = (ρ.set j (.sh d)).set i (.sh d) := rfl
@[simp] theorem ocr : leak d .p ρ = ρ := rfl
@[simp] theorem ocs : leak d .f ρ = ρ := rfl
@[simp] theorem oct : leak d (.b i) ρ = ρ.set i (.sh d) := rfl
@[simp] theorem ocu : sFor ri g s k ρ = ri k.ex ρ fun ds ρ1 => dLoop g s k ds ρ1 := rfl
@[simp] theorem ocv : dLoop g s k [] ρ = k.nx ρ := rfl
@[simp] theorem ocw {q : Env → Prop} : gN i d ρ q = (i < ρ.length ∧ q (ρ.set i (.sh d))) := rfl
@[simp] theorem ocx {ds : List D} {q : Env → Prop} : gT n gs (.tup ds) ρ q = (ds.length = n ∧ gs ds ρ q) := rfl
@[simp] theorem ocy {ds : List D} {q : Env → Prop} : gL n gs (.lst ds) ρ q = (ds.length = n ∧ gs ds ρ q) := rfl
@[simp] theorem ocz {q : Env → Prop} : gsNil [] ρ q = q ρ := rfl
@[simp] theorem oda {ds : List D} {q : Env → Prop} : gsCons g gs (d :: ds) ρ q = g d ρ fun ρ1 => gs ds ρ1 q := rfl
@[simp] theorem o_any_l {ds : List D} : iAny (fun x ρ Q => Q (.lst ds) .p ρ) x ρ QI = QI ds ρ := rfl
@[simp] theorem odb : iAny ta x ρ QI = ta x ρ fun d g ρ1 => match d with
  | .lst ds => QI ds (leak d g ρ1)
  | .tup ds => QI ds (leak d g ρ1)
  | .str z => QI (signs z) ρ1
  | _ => False := rfl
@[simp] theorem odc : iEnumD ta x ρ QI = ta x ρ fun d g ρ1 => items d fun ds => QI (numbered ds) (leak d g ρ1) := rfl
@[simp] theorem ode : iRange1 ra x ρ QI = ra x ρ fun ds ρ1 => match ds with
  | [.int n] => inR n ∧ QI (ups 0 n.toNat) ρ1
  | _ => False := rfl
@[simp] theorem odf : iRange2 ra x ρ QI = ra x ρ fun ds ρ1 => match ds with
  | [.int a, .int b] => inR a ∧ inR b ∧ QI (ups a (b - a).toNat) ρ1
  | _ => False := rfl
@[simp] theorem odg {fz own : List Nat} : dLc ri fz own g rt ta x ρ Q = ri x ρ fun ds ρ1 => ds.length ≤ sizeLine ∧ lcL own (wipeE (frz (own ++ fz) ρ1) own) g rt ta ds [] fun acc => Q (.lst acc) .f (frz (own ++ fz) ρ1) := rfl
@[simp] theorem odh {own : List Nat} {acc : List D} {q : List D → Prop} : lcL own ρ g rt ta [] acc q = q acc := rfl
@[simp] theorem odi : dRev ta x ρ Q = ta x ρ fun d _ ρ1 => match d with
  | .lst ds => Q (.lst ds.reverse) .f ρ1
  | _ => False := rfl
@[simp] theorem odj {pl : Int → Int → Int → Prop} {sp : Sps} : dTurn pl n sp ra x ρ Q = ra x ρ fun ds ρ1 => ds.length = n ∧ sp ds (fun d o => o = true ∧ (∃ i j k : Int, d = .lst [.int i, .int j, .int k] ∧ pl i j k) ∧ Q (.bl true) .p ρ1) (fun _ => False) := rfl
@[simp] theorem odk (h : ρ[i]? = some (.own d)) {q : D → Prop} : ownIn ρ i q = q d := by unfold ownIn; rw [h]
@[simp] theorem odm {w : FW} : sWr i w ra k ρ = ownIn ρ i fun d => isLst d ∧ ra k.ex ρ fun ds ρ1 => ownIn ρ1 i fun d => w d ds fun d' r => k.nx (ρ1.set i (.own d')) := rfl
@[simp] theorem odn : sPut i ta tb k ρ = ta k.ex ρ fun d g ρ1 => ownIn (leak d g ρ1) i fun _ => tb k.ex (leak d g ρ1) fun b _ ρ2 => ownIn ρ2 i fun o => putAt o b d fun o' => k.nx (ρ2.set i (.own o')) := rfl
@[simp] theorem odp : sNever k ρ = False := rfl
@[simp] theorem odq {Qd : D → Bool → Prop} {xd : D → Prop} : (kdOf Qd xd).nx ρ = Qd .non false := rfl
@[simp] theorem odr {Qd : D → Bool → Prop} {xd : D → Prop} {tg : Tag} : (kdOf Qd xd).rt d tg ρ = Qd d (frOf tg) := rfl
@[simp] theorem ods {Qd : D → Bool → Prop} {xd : D → Prop} : (kdOf Qd xd).ex d ρ = xd d := rfl
@[simp] theorem odt : frOf .p = false := rfl
@[simp] theorem odu : frOf .f = true := rfl
@[simp] theorem odv : frOf (.b i) = true := rfl
end
end Dc
set_option maxHeartbeats 1000000
namespace Dc
open PySem L2 PyProof.Rows PySem.W

def unB : Tag → Tag
  | .b _ => .p
  | g => g
inductive Tgs {T : Tx} (c : Dx T) (σ : L2.St) (B H : Hp) (ρ : Env) : List V → List (D × Tag) → Prop
  | nil : Tgs c σ B H ρ [] []
  | p {v : V} {d : D} {vs : List V} {l : List (D × Tag)} : Den c B v d → Tgs c σ B H ρ vs l → Tgs c σ B H ρ (v :: vs) ((d, .p) :: l)
  | f {a : Addr} {d : D} {vs : List V} {l : List (D × Tag)} : Mine c B a → OwnAt c B H a d → (∀ (i : Nat) (e : D), σ[i]? = some (some (V.ref a)) → ρ[i]? = some (Sl.own e) → False) →
      (∀ (i : Nat) (e : D), vs[i]? = some (V.ref a) → l[i]? = some (e, .f) → False) → Tgs c σ B H ρ vs l → Tgs c σ B H ρ (.ref a :: vs) ((d, .f) :: l)
abbrev RAt := XQ → Env → (List (D × Tag) → Env → Prop) → Prop
def dNilT : RAt := fun _ ρ Q => Q [] ρ
def dConsT (ta : RE) (tr : RAt) : RAt := fun x ρ Q => ta x ρ fun d g ρ1 => tr x (leak d g ρ1) fun l ρ2 => Q ((d, unB g) :: l) ρ2
def liftAt (T : Tx) (W : WX) (t : RAt) : TA := fun σ H Q' => ∃ c : Dx T, ∃ B ρ x Q, Rel c σ B H ρ ∧ XW c W B x ∧ t x ρ Q ∧
  ∀ l ρ' vs B' H', Q l ρ' → Ex B B' → ExP c H H' → Rel c σ B' H' ρ' → Tgs c σ B' H' ρ' vs l → Q' vs H'
section
variable {T : Tx} {c : Dx T} {σ : L2.St} {B B' H H' : Hp} {ρ : Env}
theorem Rel.fence (R : Rel c σ B H ρ) {a : Addr} (ha : ∃ o, lsd o ∧ H a = some o) (hb : B a = none) (hp : ¬ c.wild a) (hn : ∀ (i : Nat) (e : D), σ[i]? = some (some (V.ref a)) → ρ[i]? = some (Sl.own e) → False) : Rel (Dc.ward c a) σ B H ρ := by
  refine ⟨R.ex, R.pail, R.ent, fun b h => ?_, R.len, fun i u s h1 h2 => ?_, R.dj⟩
  · rcases h with h | rfl
    · exact R.fb b h
    · exact ⟨ha, hb, hp⟩
  · have z := R.sl i u s h1 h2
    cases z with
    | no => exact .no
    | sh z => exact .sh (Den.ent _ _ z)
    | @own b d mm z =>
      refine .own ⟨mm.b, mm.p, mm.h, fun q => ?_⟩ (OwnAt.to (c := c) (c' := Dc.ward c a) rfl z)
      rcases q with q | rfl
      · exact mm.f q
      · exact hn i d h1 h2
theorem Rel.unfence {a : Addr} (R : Rel (Dc.ward c a) σ B H ρ) : Rel c σ B H ρ := by
  refine ⟨R.ex, R.pail, R.ent, fun b h => R.fb b (.inl h), R.len, fun i u s h1 h2 => ?_, R.dj⟩
  have z := R.sl i u s h1 h2
  cases z with
  | no => exact .no
  | sh z => exact .sh (Den.unent z)
  | own mm z => exact .own ⟨mm.b, mm.p, mm.h, fun q => mm.f (.inl q)⟩ (OwnAt.to (c := Dc.ward c a) (c' := c) rfl z)
theorem Tgs.unfence {a : Addr} {vs : List V} {l : List (D × Tag)} (h : Tgs (Dc.ward c a) σ B H ρ vs l) : Tgs c σ B H ρ vs l ∧ ∀ (i : Nat) (e : D), vs[i]? = some (V.ref a) → l[i]? = some (e, .f) → False := by
  induction h with
  | nil => exact ⟨.nil, fun i e h => by simp at h⟩
  | p n r ih =>
    refine ⟨.p (Den.unent n) ih.1, fun i e h1 h2 => ?_⟩
    cases i with
    | zero => simp at h2
    | succ i => exact ih.2 i e (by simpa using h1) (by simpa using h2)
  | @f b d vs l m o n1 n2 r ih =>
    refine ⟨.f ⟨m.b, m.p, m.h, fun q => m.f (.inl q)⟩ (OwnAt.to (c := Dc.ward c a) (c' := c) rfl o) n1 n2 ih.1, fun i e h1 h2 => ?_⟩
    cases i with
    | zero =>
      simp at h1
      exact m.f (.inr h1)
    | succ i => exact ih.2 i e (by simpa using h1) (by simpa using h2)
theorem lat_nil {W : WX} : ∀ σ H Q', liftAt T W dNilT σ H Q' → tNil σ H Q' := by
  rintro σ H Q' ⟨c, B, ρ, x, Q, R, X, h, q⟩
  exact q _ _ _ B H h Ex.rfl' ExP.rfl' R .nil
theorem lat_cons {W : WX} {ta : RE} {tr : RAt} : ∀ σ H Q', liftAt T W (dConsT ta tr) σ H Q' → tCons (liftE T W ta) (liftAt T W tr) σ H Q' := by
  rintro σ H Q' ⟨c, B, ρ, x, Q, R, X, h, q⟩
  refine ⟨c, B, ρ, x, _, R, X, h, fun d1 g1 ρ1 v1 B1 H1 h1 e1 k1 R1 t1 => ?_⟩
  have told : ∀ {B2 : Hp} {ρ2 : Env}, Ex B1 B2 → Rel c σ B2 H1 ρ2 → Den c B2 v1 d1 → tr x ρ2 (fun l ρ2 => Q ((d1, .p) :: l) ρ2) → liftAt T W tr σ H1 fun xs H2 => Q' (v1 :: xs) H2 := fun {B2 ρ2} e2 R2 n h =>
    ⟨c, B2, ρ2, x, _, R2, X.up (e1.trans e2), h, fun l ρ3 vs B3 H3 h3 e3 k3 R3 t3 => q _ _ _ B3 H3 h3 (e1.trans (e2.trans e3)) (k1.trans k3) R3 (.p (n.mono e3) t3)⟩
  cases t1 with
  | p n => exact told Ex.rfl' R1 n h1
  | @b a d i w1 w2 =>
    obtain ⟨B2, e2, R2, n⟩ := leak_ok R1 (.b w1 w2)
    exact told e2 R2 n h1
  | @f a d m o n =>
    have R2 := R1.fence o.thereL m.b m.p n
    refine ⟨Dc.ward c a, B1, ρ1, x, _, R2, fun e ρ' cls dd σ' B' H' hx eb R' xd => X e ρ' cls dd σ' B' H' hx (e1.trans eb) R'.unfence (XDen.to (c := Dc.ward c a) (c' := c) rfl xd), h1, fun l ρ3 vs B3 H3 h3 e3 k3 R3 t3 => ?_⟩
    obtain ⟨t4, ne⟩ := t3.unfence
    have ba : B3 a = none := (R3.fb a (.inr rfl)).2.1
    refine q _ _ _ B3 H3 h3 (e1.trans e3) (k1.trans k3) R3.unfence (.f ⟨ba, m.p, m.h, m.f⟩ (o.mono e3 fun u hu => k3 a u m.p hu) (fun i e w1 w2 => ?_) ne t4)
    exact (R3.ownB w1 w2).1.f (.inr rfl)
def setV : List Nat → List V → L2.St → L2.St
  | i :: is, v :: vs, σ => setV is vs (σ.set i (some v))
  | _, _, σ => σ
def setD : List Nat → List (D × Tag) → Env → Env
  | i :: is, p :: l, ρ => setD is l (put i p.1 p.2 ρ)
  | _, _, ρ => ρ
theorem Tgs.after {i : Nat} {v : V} {s : Sl} {vs : List V} {l : List (D × Tag)} (h : Tgs c σ B H ρ vs l) (ok : ∀ a d, v = .ref a → s = .own d → ∀ (j : Nat) (e : D), vs[j]? = some (V.ref a) → l[j]? = some (e, .f) → False) : Tgs c (σ.set i (some v)) B H (ρ.set i s) vs l := by
  induction h with
  | nil => exact .nil
  | p n r ih => exact .p n (ih fun a d e1 e2 j e w1 w2 => ok a d e1 e2 (j + 1) e (by simpa using w1) (by simpa using w2))
  | @f b d vs l m o n1 n2 r ih =>
    refine .f m o (fun j e w1 w2 => ?_) n2 (ih fun a d e1 e2 j e w1 w2 => ok a d e1 e2 (j + 1) e (by simpa using w1) (by simpa using w2))
    by_cases ji : i = j
    · subst ji
      have h1 : i < σ.length := by have := (List.getElem?_eq_some_iff.mp w1).1; simpa using this
      have h2 : i < ρ.length := by have := (List.getElem?_eq_some_iff.mp w2).1; simpa using this
      rw [List.getElem?_set_self h1] at w1
      rw [List.getElem?_set_self h2] at w2
      injection w1 with w1; injection w1 with w1; injection w2 with w2
      exact ok b e w1 w2 0 d rfl rfl
    · rw [List.getElem?_set_ne ji] at w1 w2
      exact n1 j e w1 w2
theorem setAll : ∀ (js : List Nat) {vs : List V} {l : List (D × Tag)} {σ : L2.St} {ρ : Env}, Rel c σ B H ρ → Tgs c σ B H ρ vs l → Rel c (setV js vs σ) B H (setD js l ρ)
  | [], vs, l, σ, ρ, R, t => by
    cases vs <;> cases l <;> exact R
  | i :: is, _, _, σ, ρ, R, .nil => R
  | i :: is, _, _, σ, ρ, R, .p n r => setAll is (R.setSh i n) (r.after fun a d _ e => (nomatch e))
  | i :: is, _, _, σ, ρ, R, .f m o n1 n2 r => setAll is (R.setOwn i m o n1) (r.after fun a d e1 _ j e w1 w2 => by cases e1; exact n2 j e w1 w2)
end
def sPar (js : List Nat) (ta : RAt) : RS := fun k ρ => ta k.ex ρ fun l ρ1 => l.length = js.length ∧ k.nx (setD js l ρ1)
theorem Tgs.len {T : Tx} {c : Dx T} {σ : L2.St} {B H : Hp} {ρ : Env} {vs : List V} {l : List (D × Tag)} (h : Tgs c σ B H ρ vs l) : vs.length = l.length := by
  induction h with
  | nil => rfl
  | p _ _ ih => simp [ih]
  | f _ _ _ _ _ ih => simp [ih]
section
variable {T : Tx} {W : WX} {ta : RAt} {i j k : Nat}
theorem ls_par2 : ∀ D σ H, liftS T W (sPar [i, j] ta) D σ H → tPar i j (liftAt T W ta) D σ H := by
  rintro D σ H ⟨c, B, ρ, k, R, X, h, n, r, bk, ct⟩
  refine ⟨c, B, ρ, _, _, R, X, h, fun l ρ1 vs B1 H1 h1 e1 k1 R1 t1 => ?_⟩
  have R2 := setAll [i, j] R1 t1
  have hl := t1.len
  rw [h1.1] at hl
  match vs, hl with
  | [v, w], _ => exact ⟨v, w, rfl, n _ _ B1 H1 h1.2 e1 R2⟩
variable {X : Cx} {e a b d : Expr} {es : List Expr} {re : RE} {rr : RAt} {pos : Pos}
theorem qt_nil : PA X [] (liftAt T W dNilT) := pa_nil.imp lat_nil
theorem qt_cons (ha : PE X e (liftE T W re)) (hr : PA X es (liftAt T W rr)) (hs : starEach (e :: es) X.env = (false, eval e X.env) :: starEach es X.env := by rfl) : PA X (e :: es) (liftAt T W (dConsT re rr)) := (pa_cons ha hr hs).imp lat_cons
theorem qs_par2 (i j : Nat) {x y : Str} {px py pt : Pos} {kt k2 pt2} (hc : X.calm = true) (hN : X.N.Nodup) (ha : PA X [a, b] (liftAt T W ta)) (hi : X.N[i]? = some x := by rfl) (hj : X.N[j]? = some y := by rfl) (hij : i ≠ j := by decide)
    (hx : X.env.scope.names.lookup x = some .local := by rfl) (hy : X.env.scope.names.lookup y = some .local := by rfl)
    (hw : swappedStores [.Tuple [.Name x px, .Name y py] kt pt] (.Tuple [a, b] k2 pt2) X.env = pure (some [x, y]) := by rfl)
    (hs : swapsWithSole [.Tuple [.Name x px, .Name y py] kt pt] (.Tuple [a, b] k2 pt2) pos.line X.env = pure false := by rfl) :
    PS X (.Assign [.Tuple [.Name x px, .Name y py] kt pt] (.Tuple [a, b] k2 pt2) pos) (liftS T W (sPar [i, j] ta)) := (ps_par hc hN hi hj hij hx hy ha hw hs).imp ls_par2
end
@[simp] theorem odw {x : XQ} {ρ : Env} {Q : List (D × Tag) → Env → Prop} : dNilT x ρ Q = Q [] ρ := rfl
@[simp] theorem odx {x : XQ} {ρ : Env} {ta : RE} {tr : RAt} {Q : List (D × Tag) → Env → Prop} : dConsT ta tr x ρ Q = ta x ρ fun d g ρ1 => tr x (leak d g ρ1) fun l ρ2 => Q ((d, unB g) :: l) ρ2 := rfl
@[simp] theorem o_unB_p : unB .p = .p := rfl
@[simp] theorem o_unB_f : unB .f = .f := rfl
@[simp] theorem o_unB_b {i : Nat} : unB (.b i) = .p := rfl
@[simp] theorem o_sPar {js : List Nat} {ta : RAt} {k : Kd} {ρ : Env} : sPar js ta k ρ = ta k.ex ρ fun l ρ1 => l.length = js.length ∧ k.nx (setD js l ρ1) := rfl
@[simp] theorem o_setD_nil {l : List (D × Tag)} {ρ : Env} : setD [] l ρ = ρ := by cases l <;> rfl
@[simp] theorem o_setD_cons {i : Nat} {is : List Nat} {p : D × Tag} {l : List (D × Tag)} {ρ : Env} : setD (i :: is) (p :: l) ρ = setD is l (put i p.1 p.2 ρ) := rfl
end Dc
set_option maxHeartbeats 1000000
namespace Dc
open PySem L2 PyProof.Rows PySem.W
theorem kit_mt {K : Frag} {C : Addr} {T : String} {r : Bool} (h : mroIn K C (.type T) = some r) (hk : kitMeta T = true := by decide +kernel) : kitOne K (.ref C) (.type T) = some r := by
  show (if (Value.ref C == Value.type T) = true then some true else if kitMeta T = true then mroIn K C (.type T) else none) = some r
  have e : (Value.ref C == Value.type T) = false := rfl
  rw [e, hk, h]; rfl
theorem noref (C : Addr) : ∀ l : List String, (l.map Value.type).contains (Value.ref C) = false
  | [] => rfl
  | _ :: l => by
    rw [List.map_cons, List.contains_cons, noref C l]
    rfl
theorem kit_tm {K : Frag} {C : Addr} {T : String} (h1 : isClsIn K C = true) (h2 : typeIn K (.ref C) = some (.type "type")) (h3 : (fastFind? T).isSome = true := by decide +kernel) : kitOne K (.type T) (.ref C) = some false := by
  show (if (Value.type T == Value.ref C) = true then some true else if ((clsIn K C).isSome && typeIn K (.ref C) == some (.type "type")) = true then ((fastFind? T).map (·.mro.map Value.type)).map (·.contains (Value.ref C)) else none) = some false
  have e : (Value.type T == Value.ref C) = false := rfl
  have e2 : ((clsIn K C).isSome && (some (Value.type "type") == some (Value.type "type"))) = true := by
    rw [show (some (Value.type "type") == some (Value.type "type")) = true from by decide +kernel, Bool.and_true]; exact h1
  rw [e, h2, e2]
  cases q : fastFind? T with
  | none => rw [q] at h3; cases h3
  | some m =>
    show (some ((m.mro.map Value.type).contains (Value.ref C))) = some false
    rw [noref]
theorem ref_beq {C C' : Addr} : (Value.ref C == Value.ref C') = decide (C = C') := by
  by_cases h : C = C'
  · subst h
    rw [decide_eq_true rfl]
    exact beq_self_eq_true _
  · rw [decide_eq_false h]
    cases e : (Value.ref C == Value.ref C') with
    | false => rfl
    | true => exact (h (Value.ref.inj (eq_of_beq e))).elim
theorem kit_mm {K : Frag} {C C' : Addr} (h0 : mroIn K C (.ref C) = some true) (h : mroIn K C (.ref C') = some false) (h1 : isClsIn K C' = true) (h2 : typeIn K (.ref C') = some (.type "type")) : kitOne K (.ref C) (.ref C') = some false := by
  have ne : C ≠ C' := fun e => by
    subst e
    rw [h0] at h; cases h
  show (if (Value.ref C == Value.ref C') = true then some true else if ((clsIn K C').isSome && typeIn K (.ref C') == some (.type "type")) = true then mroIn K C (.ref C') else none) = some false
  have e2 : ((clsIn K C').isSome && (some (Value.type "type") == some (Value.type "type"))) = true := by
    rw [show (some (Value.type "type") == some (Value.type "type")) = true from by decide +kernel, Bool.and_true]; exact h1
  rw [ref_beq, decide_eq_false ne, h2, e2, h]
  rfl
theorem kit_me {K : Frag} {C : Addr} : kitOne K (.ref C) (.ref C) = some true := by
  show (if (Value.ref C == Value.ref C) = true then some true else _) = some true
  rw [ref_beq, decide_eq_true rfl]
  rfl
end Dc
set_option maxHeartbeats 1000000
namespace Dc
open PySem L2 PyProof.Rows PySem.W

section
variable {prog : Program} {w : World} {A : Around} {E : Value → Shared → Prop} {s : Shared} {K : Frag} {x C L f : Addr} {h₀ : Heap} {m : Str → Option Value} {ox : Obj} {od : Option Obj} {name : Str} {b tb : Value}
theorem ifBound_B {M : Model} {id : String} {args : List Value} {Q : Option Value → Shared → Prop} (X : K.In s.heap) (I : InstAt s.heap x ox C od) (hs : findIn K (.ref C) name = some (some (.builtin id))) (hf : bindSpecial (.builtin id) (.ref x) = pure (.builtin id, [.ref x]))
    (h : wpAny M A (call (.builtin id) (.ref x :: args)) (fun v => Q (some v)) E s) : wpAny M A (callSpecialIfBound? (.ref x) name args) Q E s := by
  simp only [callSpecialIfBound?, bindSpecialIfBound?]
  refine wpAny_holding (wpAny_bind (wpAny_bind (wpAny_bind (I.type.here ((looks_findIn X hs).here ?_)))))
  refine wpAny_bind (wpAny_askSetting (wpAny_ite ?_))
  have fin : wpAny M A (call (.builtin id) ([.ref x] ++ args) >>= fun v => pure (some v)) Q E s := wpAny_bind (wpAny_mono h (fun v s' h' => wpAny_pure h') fun _ _ h' => h')
  rw [hf]
  split
  · exact wpAny_bind (wpAny_pure (wpAny_pure (by exact fin)))
  · exact wpAny_tryCatch (wpAny_bind (wpAny_pure (wpAny_pure (by exact fin))))
theorem check_ne {Q : Unit → Shared → Prop} (X : K.In s.heap) (I : InstAt s.heap x ox C od) (hm : mroIn K C (.type "object") = some true) (hq : Q () s) : wpAny (model prog w) A (checkBuiltinCall "object.__ne__" ⟨[.ref x, b], []⟩) Q E s := by
  simp only [checkBuiltinCall, F.cmpKind_ne, F.cmpSplit_ne]
  refine wpAny_bind ?_
  unfold isInstance
  refine wpAny_bind (I.type.here ((looks_mroIn X hm).here ?_))
  have ha := F.cmpArgs_ne (.ref x) b
  cases hsig : Manifest.signature? "object.__ne__" with
  | none => exact wpAny_pure hq
  | some sig =>
    simp only [argsOk, hsig] at ha
    have h2 : Bind.checkArgs "object.__ne__" sig ⟨[.ref x, b], []⟩ = pure () := ha
    show wpAny (model prog w) A (Bind.checkArgs "object.__ne__" sig ⟨[.ref x, b], []⟩) Q E _
    rw [h2]; exact wpAny_pure hq
theorem ne_entry {Q : Fin → Shared → Prop} (hu : A.units < cLine) (X : K.In s.heap) (I : InstAt s.heap x ox C od) (hs : findIn K (.ref C) "__eq__" = some (some (.ref f))) (hf : isFn K (.ref f) = true)
    (h : wpAny (model prog w) A (call (.ref f) [.ref x, b]) (fun v s' => ∃ r, v = .bool r ∧ Q (.done (.ret (.bool (!r)))) s') E s) : wpAny (model prog w) A (Builtin.«object.__ne__» ⟨[.ref x, b], []⟩) Q E s := by
  unfold Builtin.«object.__ne__»
  repeat (first
    | with_reducible refine wpAny_cRoomFor hu ?_
    | (refine wpAny_bind (m := callSpecialIfBound? (.ref x) (Str.ofString "__eq__") [b])
        (ifBound_K X I hs hf (wpAny_mono h (fun r s' hr => by
          obtain ⟨b, rfl, hq⟩ := hr
          repeat (first | exact hq | exact wpAny_pure hq | exact wpAny_truthy_bool hq | (refine wpAny_bind (m := truthy (.bool _)) (wpAny_truthy_bool ?_)) | wp_step)) fun _ _ e => e)))
    | wp_step)
theorem ne_K {Q : Value → Shared → Prop} (hu : A.units + 1 < cLine) (F0 : Fr h₀ L s.heap m) (X₀ : K.In h₀) (I : InstAt s.heap x ox C od) (hb : Looks (model prog w) s.heap (typeOf b) tb) (hn : notFirst K C tb = true) (hm : mroIn K C (.type "object") = some true)
    (hn2 : findIn K (.ref C) "__ne__" = some (some (.builtin "object.__ne__"))) (hs : findIn K (.ref C) "__eq__" = some (some (.ref f))) (hf : isFn K (.ref f) = true)
    (h : wpAny (model prog w) A.in1 (call (.ref f) [.ref x, b]) (fun v s' => ∃ r, v = .bool r ∧ Q (.bool (!r)) s') E s) : wpAny (model prog w) A (richCompare .NotEq (.ref x) b) Q E s := by
  have X := X₀.keeps F0.keep
  have one : wpAny (model prog w) A (tryCompare (.ref x) (cmpInfo .NotEq).2.1 b) (fun r s' => ∃ v, r = some v ∧ Q v s') E s := by
    unfold tryCompare
    refine wpAny_bind (ifBound_B X I hn2 (F.cmp_object.ne.bind _) (wpAny_call (codeAny_call_builtin F.cmp_object.ne.plain F.cmpEntry_ne (check_ne X I hm (ne_entry (A := A.in1) hu X I hs hf (wpAny_mono h (fun v s' hv => ?_) fun _ _ e => e))))))
    obtain ⟨r, rfl, hq⟩ := hv
    first | exact ⟨r, rfl, wpAny_pure ⟨_, rfl, hq⟩⟩ | exact ⟨r, rfl, ⟨_, rfl, hq⟩⟩
  unfold richCompare
  simp only [oneThing_ref]
  refine wpAny_holding (wpAny_bind (wpAny_cRoomFor (Nat.lt_of_succ_lt hu) ?_))
  refine wpAny_bind (I.type.here (wpAny_bind (hb.here ?_)))
  split
  · rename_i q
    have e : subIn K tb (.ref C) = some false := by
      rcases Bool.or_eq_true_iff.mp hn with e | e
      · rw [beq_iff_eq.mp e] at q; simp at q
      · exact beq_iff_eq.mp e
    refine wpAny_bind ((looks_subIn X e).here ?_)
    simp only [Bool.false_eq_true, if_false]
    refine wpAny_bind (wpAny_mono one (fun r s' z => ?_) fun _ _ e => e)
    obtain ⟨v, rfl, hq⟩ := z
    exact wpAny_pure hq
  · refine wpAny_bind (wpAny_pure ?_)
    simp only [Bool.false_eq_true, if_false]
    refine wpAny_bind (wpAny_mono one (fun r s' z => ?_) fun _ _ e => e)
    obtain ⟨v, rfl, hq⟩ := z
    exact wpAny_pure hq
end

theorem nf_ty {K : Frag} {C : Addr} {T : String} (h3 : (fastFind? T).isSome = true := by decide +kernel) : notFirst K C (.type T) = true := by
  unfold notFirst
  rw [Bool.or_eq_true]
  right
  show ((fastFind? T).map (·.mro.map Value.type)).map (·.contains (Value.ref C)) == some false
  cases q : fastFind? T with
  | none => rw [q] at h3; cases h3
  | some m =>
    show (some ((m.mro.map Value.type).contains (Value.ref C)) == some false) = true
    rw [noref]; rfl
theorem nf_self {K : Frag} {C : Addr} : notFirst K C (.ref C) = true := by
  unfold notFirst
  rw [ref_beq, decide_eq_true rfl]; rfl
def okO (cn : Nat) : D → Prop
  | .non => True
  | .bl _ => True
  | .int _ => True
  | .str _ => True
  | .tup _ => True
  | .lst _ => True
  | .dic _ => True
  | .obj k _ => k = cn
  | _ => False
def spOq (cn : Nat) (s1 s2 : Sps) : Sps := fun ds Qd xd => match ds with
  | [.obj k os, d2] => if k = cn then okO cn d2 ∧ s1 [.obj k os, d2] Qd xd else s2 [.obj k os, d2] Qd xd
  | _ => False
def eqS (sp : Sps) : Sps := fun ds Qd xd => sp ds (fun d _ => match d with
  | .bl b => Qd (.bl b) false
  | _ => False) (fun _ => False)
def neS (sp : Sps) : Sps := fun ds Qd xd => sp ds (fun d _ => match d with
  | .bl b => Qd (.bl (!b)) false
  | _ => False) (fun _ => False)
def dOpO (f : F2) (so : Sps) (ta tb : RE) : RE := fun x ρ Q => ta x ρ fun d1 _ ρ1 => tb x ρ1 fun d2 g2 ρ2 => match d1 with
  | .obj k os => so [.obj k os, d2] (fun d o => Q d (tagO o) (leak d2 g2 ρ2)) (fun _ => False)
  | d1 => f d1 d2 fun d g => Q d g ρ2
def rQD (T : Tx) (f : F2) (so : Sps) : R2 := fun x y H Q => r2D T f x y H Q ∨ spD T 2 so [x, y] H Q fun _ _ _ => False
section
variable {T : Tx} {W : WX} {f : F2} {so : Sps} {ta tb : RE}
theorem le_opO : ∀ σ H Q', liftE T W (dOpO f so ta tb) σ H Q' → tOp (rQD T f so) (liftE T W ta) (liftE T W tb) σ H Q' := by
  rintro σ H Q' ⟨c, B, ρ, x, Q, R, X, h, q⟩
  refine ⟨c, B, ρ, x, _, R, X, h, fun d1 g1 ρ1 v1 B1 H1 h1 e1 k1 R1 t1 => ⟨c, B1, ρ1, x, _, R1, X.up e1, h1, fun d2 g2 ρ2 v2 B2 H2 h2 e2 k2 R2 t2 => ?_⟩⟩
  have pl : (f d1 d2 fun d g => Q d g ρ2) → rQD T f so v1 v2 H2 Q' := fun h2 => .inl ⟨c, B2, d1, d2, _, R2.ex, (t1.tm R1).mono e2 k2, t2.tm R2, h2, fun d g v H' hq r => res_to R2 (fun d g ρ' v B' H' hQ e k R' t => q d g ρ' v B' H' hQ ((e1.trans e2).trans e) ((k1.trans k2).trans k) R' t) hq r⟩
  cases d1
  case obj k os =>
    obtain ⟨B3, e3, R3, n3⟩ := leak_ok R2 t2
    have n1 := ((t1.tm R1).denO).mono (e2.trans e3)
    exact .inr (spD_at (W := fun _ _ _ _ => False) (x := noX) R3 XW.no (.cons n1 (.cons n3 .nil)) rfl h2 fun d g ρ' v B' H' a1 a2 a3 a4 a5 => q _ _ _ _ B' H' a1 ((e1.trans (e2.trans e3)).trans a2) ((k1.trans k2).trans a3) a4 a5)
  all_goals exact pl h2
end
section
variable {X : Cx} {T : Tx} {k cn : Nat} {f : Addr} {fd : FuncData} {ps : List Str} {sp s2 : Sps} {f0 : F2} {op : CmpOp}
theorem oq_none (h : OpR X (compareOp op) (r2D T f0)) : OpR X (compareOp op) (rQD T f0 spNone) := by
  intro pins s σ H x y v u Q I rx ry hq
  rcases hq with hq | ⟨c, B, ds, Qd, xd, _, _, _, _, z, _⟩
  · exact h pins s σ H x y v u Q I rx ry hq
  · exact z.elim
theorem own_call2 {A : Around} {sp : Sp} {pins : List (Addr × Obj)} {σ : L2.St} {H : Hp} {s : Shared} {x y : V} {v u : Value} {Q : VK} (F : FnG X.prog X.w X.K X.mg X.base k f fd ps sp) (hr : Room k A) (hg : A.guards = some []) (e0 : Env0 X.prog X.w X.K X.mg X.base A X.stack s H) (hb : KB X.K fd ps 2 []) (I : Inv X pins σ H s) (rx : L2.RelV x v) (ry : L2.RelV y u) (h : sp [x, y] H Q fun _ _ _ => False) :
    wpAny (model X.prog X.w) A (call (.ref f) [v, u]) (fun r s' => ∃ v H', Inv X pins σ H' s' ∧ L2.RelV v r ∧ Q v H') X.xe s := by
  refine wpAny_call (codeAny_mono (F.run A X.stack s H ⟨[v, u], []⟩ [v, u] [x, y] Q _ hr hg e0 (hb _ [v, u] [] I.kIn rfl rfl) (.cons rx (.cons ry .nil)) h) fun r s' hq => ?_)
  cases r with
  | error e =>
    obtain ⟨_, _, _, _, _, _, _, _, _, _, _, _, z⟩ := hq
    exact z.elim
  | ok fl =>
    cases fl with
    | ret u => exact I.after hq
    | next => exact False.elim hq
    | brk => exact False.elim hq
    | cont => exact False.elim hq
theorem right_ty {pins : List (Addr × Obj)} {σ : L2.St} {H B : Hp} {s : Shared} {c : Dx T} {y : V} {u : Value} {d2 : D} (hK : X.K = T.K) (I : Inv X pins σ H s) (ry : L2.RelV y u) (ex : Ex B H) (n : Den c B y d2) (ok : okO cn d2) :
    ∃ tb, Looks (model X.prog X.w) s.heap (typeOf u) tb ∧ notFirst X.K (T.cl cn) tb = true := by
  have go : ∀ t : String, (fastFind? t).isSome = true → TyX X.K H y (.type t) → ∃ tb, Looks (model X.prog X.w) s.heap (typeOf u) tb ∧ notFirst X.K (T.cl cn) tb = true := fun t ht ty => by
    obtain ⟨P, kx, hP, _⟩ := kit_of I ry ty
    exact ⟨_, kx.ty _ _ I.kIn hP, nf_ty ht⟩
  cases n with
  | non => exact go "NoneType" (by decide +kernel) (.base .non)
  | bl b => exact go "bool" (by decide +kernel) (.base (.bl _))
  | int i => exact go "int" (by decide +kernel) (.base (.int _))
  | str x => exact go "str" (by decide +kernel) (.base (.str _))
  | tup h r =>
    refine go "tuple" (by decide +kernel) ?_
    rw [hK]
    rcases ex.sqT h with (h | ⟨o, h⟩) | ⟨o, _, _, h, hc, _⟩
    · exact .base (.tup h)
    · exact .fTuple h
    · exact .kTuple h hc
  | lst h n r => exact go "list" (by decide +kernel) (.base (.lst (ex _ _ h)))
  | dic h n r => exact go "dict" (by decide +kernel) (.base (.dK (ex _ _ h)))
  | obj h r =>
    obtain rfl : _ = cn := ok
    obtain rfl : u = Value.ref _ := ry
    obtain ⟨_, od, _, J, _⟩ := SlX.slt_inst I (ex.slt h)
    exact ⟨_, J.type, nf_self⟩
  | ptr h => exact ok.elim
  | adr => exact ok.elim
  | clo h => exact ok.elim
  | scr h => exact ok.elim
  | exc h h1 r => exact ok.elim
  | tpz h h1 h2 r => exact ok.elim
theorem oq_eq (F : FnG X.prog X.w X.K X.mg X.base k f fd ps (spD T 2 sp)) (hr : Room k X.A) (hg : X.A.guards = some []) (hb : KB X.K fd ps 2 []) (hs : findIn X.K (.ref (T.cl cn)) "__eq__" = some (some (.ref f))) (hf : isFn X.K (.ref f) = true)
    (h : OpR X (compareOp .Eq) (rQD T f0 s2)) (hK : X.K = T.K := by rfl) : OpR X (compareOp .Eq) (rQD T f0 (spOq cn (eqS sp) s2)) := by
  intro pins s σ H x y v u Q I rx ry hq
  rcases hq with hq | ⟨c, B, ds, Qd, xd, h0, ho, r, hl, hs', q, qx⟩
  · exact h pins s σ H x y v u Q I rx ry (.inl hq)
  match ds, hl, r with
  | [d1, d2], _, .cons n1 (.cons n2 .nil) =>
    unfold spOq at hs'
    split at hs'
    · rename_i z os d2' e
      cases e
      by_cases ek : z = cn
      · subst ek
        rw [if_pos rfl] at hs'
        obtain ⟨tb, hty, hnf⟩ := right_ty hK I ry ho.ex n2 hs'.1
        cases n1 with
        | @obj a dx xs' _ _ sl r1 =>
          obtain rfl : v = Value.ref a := rx
          obtain ⟨_, od, _, J, _⟩ := SlX.slt_inst I (ho.ex.slt sl)
          obtain ⟨m, hF⟩ := I.fr
          refine PySem.W.cmp_ofEq (cmp_K (op := .Eq) hr.units0 hF I.ok.mod.kin J hty hnf hs hf (wpAny_mono (own_call2 (x := V.ref a) (Q := fun v H' => ∃ b, v = .bl b ∧ Q (.bl b) H') F hr hg I.env0 hb I rfl ry ?_) (fun r s' hv => ?_) fun _ _ e => e))
          · refine ⟨c, B, _, _, _, h0, ho, .cons (.obj sl r1) (.cons n2 .nil), rfl, hs'.2, fun d o v B' H' hq eb kp ho' ro => ?_, fun e cls dd B' H' z => z.elim⟩
            cases d <;> first | exact hq.elim | skip
            case bl b =>
              refine ⟨b, ?_, q _ _ _ B' H' hq eb kp ho' (.p (.bl b))⟩
              cases ro with
              | p h => cases h; rfl
              | f _ h => cases h
          · obtain ⟨v, H', I', rv, b, rfl, q⟩ := hv
            obtain rfl : r = Value.bool b := rv
            exact ⟨.bl b, H', I', rfl, q⟩
      · rw [if_neg ek] at hs'
        exact h pins s σ H x y v u Q I rx ry (.inr ⟨c, B, _, Qd, xd, h0, ho, .cons n1 (.cons n2 .nil), rfl, hs', q, qx⟩)
    · exact hs'.elim
theorem oq_ne (F : FnG X.prog X.w X.K X.mg X.base k f fd ps (spD T 2 sp)) (hr : Room (k + 1) X.A) (hg : X.A.guards = some []) (hb : KB X.K fd ps 2 []) (hs : findIn X.K (.ref (T.cl cn)) "__eq__" = some (some (.ref f))) (hf : isFn X.K (.ref f) = true) (hne : findIn X.K (.ref (T.cl cn)) "__ne__" = some (some (.builtin "object.__ne__"))) (hm : mroIn X.K (T.cl cn) (.type "object") = some true)
    (h : OpR X (compareOp .NotEq) (rQD T f0 s2)) (hK : X.K = T.K := by rfl) : OpR X (compareOp .NotEq) (rQD T f0 (spOq cn (neS sp) s2)) := by
  intro pins s σ H x y v u Q I rx ry hq
  rcases hq with hq | ⟨c, B, ds, Qd, xd, h0, ho, r, hl, hs', q, qx⟩
  · exact h pins s σ H x y v u Q I rx ry (.inl hq)
  match ds, hl, r with
  | [d1, d2], _, .cons n1 (.cons n2 .nil) =>
    unfold spOq at hs'
    split at hs'
    · rename_i z os d2' e
      cases e
      by_cases ek : z = cn
      · subst ek
        rw [if_pos rfl] at hs'
        obtain ⟨tb, hty, hnf⟩ := right_ty hK I ry ho.ex n2 hs'.1
        cases n1 with
        | @obj a dx xs' _ _ sl r1 =>
          obtain rfl : v = Value.ref a := rx
          obtain ⟨_, od, _, J, _⟩ := SlX.slt_inst I (ho.ex.slt sl)
          obtain ⟨m, hF⟩ := I.fr
          refine PySem.W.cmp_ofNotEq (ne_K (hu_of hr) hF I.ok.mod.kin J hty hnf hm hne hs hf (wpAny_mono (own_call2 (x := V.ref a) (Q := fun v H' => ∃ b, v = .bl b ∧ Q (.bl (!b)) H') F hr.in1 hg I.env0.in1 hb I rfl ry ?_) (fun r s' hv => ?_) fun _ _ e => e))
          · refine ⟨c, B, _, _, _, h0, ho, .cons (.obj sl r1) (.cons n2 .nil), rfl, hs'.2, fun d o v B' H' hq eb kp ho' ro => ?_, fun e cls dd B' H' z => z.elim⟩
            cases d <;> first | exact hq.elim | skip
            case bl b =>
              refine ⟨b, ?_, q _ _ _ B' H' hq eb kp ho' (.p (.bl (!b)))⟩
              cases ro with
              | p h => cases h; rfl
              | f _ h => cases h
          · obtain ⟨v, H', I', rv, b, rfl, q⟩ := hv
            obtain rfl : r = Value.bool b := rv
            exact ⟨b, rfl, .bl (!b), H', I', rfl, q⟩
      · rw [if_neg ek] at hs'
        exact h pins s σ H x y v u Q I rx ry (.inr ⟨c, B, _, Qd, xd, h0, ho, .cons n1 (.cons n2 .nil), rfl, hs', q, qx⟩)
    · exact hs'.elim
end
section
variable {X : Cx} {T : Tx} {W : WX} {f : F2} {so : Sps} {a b : Expr} {ra rb : RE} {pos : Pos} {op : CmpOp}
theorem lt_opO : ∀ σ H Q', liftT T W (dTest (dOpO f so ra rb)) σ H Q' → tTest (tOp (rQD T f so) (liftE T W ra) (liftE T W rb)) σ H Q' := by
  rintro σ H Q' ⟨c, B, ρ, x, Q, R, X, h, q⟩
  refine le_opO σ H _ ⟨c, B, ρ, x, _, R, X, h, fun d g ρ' v B' H' hd e k R' t => ?_⟩
  cases d <;> first | exact hd.elim | skip
  case bl b =>
    have ev := (t.tm R').bl_
    subst ev
    exact ⟨b, rfl, q _ _ B' H' hd e k R'⟩
theorem qe_cmpO (ho : OpR X (compareOp op) (rQD T f so)) (ha : PE X a (liftE T W ra)) (hb : PE X b (liftE T W rb)) (hm : behindInMarks op b = false := by first | exact nobehind _ (by decide) (by decide) | rfl) :
    PE X (.Compare a [op] [b] pos) (liftE T W (dOpO f so ra rb)) := (pe_cmpR ho ha hb hm).imp le_opO
theorem qt_cmpO (ho : OpR X (compareOp op) (rQD T f so)) (ha : PE X a (liftE T W ra)) (hb : PE X b (liftE T W rb)) (hm : behindInMarks op b = false := by first | exact nobehind _ (by decide) (by decide) | rfl) :
    PT X (.Compare a [op] [b] pos) (liftT T W (dTest (dOpO f so ra rb))) := (pt_cmpR ho ha hb hm).imp lt_opO
@[simp] theorem o_opO {x : XQ} {ρ : Env} {Q : EQ} : dOpO f so ra rb x ρ Q = ra x ρ fun d1 _ ρ1 => rb x ρ1 fun d2 g2 ρ2 => match d1 with
  | .obj k os => so [.obj k os, d2] (fun d o => Q d (tagO o) (leak d2 g2 ρ2)) (fun _ => False)
  | d1 => f d1 d2 fun d g => Q d g ρ2 := rfl
end
end Dc
set_option maxHeartbeats 1000000
namespace Dc
open PySem L2 PyProof.Rows PySem.W

def augI (f : Int → Int → Int) : D → D → (D → Prop) → Prop
  | .int i, .int j, k => k (.int (f i j))
  | _, _, _ => False
def sAug (i : Nat) (f : Int → Int → Int) (te : RE) : RS := fun k ρ => slot ρ i fun d0 _ => te k.ex ρ fun d _ ρ1 => augI f d0 d fun d' => k.nx (ρ1.set i (.sh d'))
section
variable {T : Tx} {W : WX} {te : RE}
end
section
variable {X : Cx} {T : Tx} {W : WX} {e : Expr} {re : RE} {pos pos' : Pos} {x : Str}
@[simp] theorem odz {i : Nat} {f : Int → Int → Int} {te : RE} {k : Kd} {ρ : Env} : sAug i f te k ρ = slot ρ i fun d0 _ => te k.ex ρ fun d _ ρ1 => augI f d0 d fun d' => k.nx (ρ1.set i (.sh d')) := rfl
@[simp] theorem oea {f : Int → Int → Int} {i j : Int} {k : D → Prop} : augI f (.int i) (.int j) k = k (.int (f i j)) := rfl
end
end Dc
set_option maxHeartbeats 1000000
namespace Dc
open PySem L2 PyProof.Rows PySem.W

abbrev RH := XQ → D → Env → (Env → Prop) → Prop
abbrev RHs := XQ → List D → Env → (Env → Prop) → Prop
def hN (i : Nat) : RH := fun _ d ρ Q => i < ρ.length ∧ Q (ρ.set i (.sh d))
def hSub (i : Nat) (ti : RE) : RH := fun x d ρ Q => ownIn ρ i fun _ => ti x ρ fun b _ ρ2 => ownIn ρ2 i fun o => putAt o b d fun o' => Q (ρ2.set i (.own o'))
def hsNil : RHs := fun _ ds ρ Q => match ds with
  | [] => Q ρ
  | _ => False
def hsCons (g : RH) (gs : RHs) : RHs := fun x ds ρ Q => match ds with
  | d :: r => g x d ρ fun ρ1 => gs x r ρ1 Q
  | _ => False
def hT (n : Nat) (gs : RHs) : RH := fun x d ρ Q => match d with
  | .tup ds => ds.length = n ∧ gs x ds ρ Q
  | _ => False
def sAsgH (te : RE) (g : RH) : RS := fun k ρ => te k.ex ρ fun d t ρ1 => g k.ex d (leak d t ρ1) k.nx
section
variable {T : Tx} {W : WX} {te : RE}
end
section
variable {X : Cx} {T : Tx} {W : WX} {e : Expr} {te : RE} {pos : Pos}
end
section
variable {x : XQ} {d : D} {ds : List D} {ρ : Env} {q : Env → Prop} {g : RH} {gs : RHs} {i n : Nat} {ti te : RE} {k : Kd}
@[simp] theorem oeb : hN i x d ρ q = (i < ρ.length ∧ q (ρ.set i (.sh d))) := rfl
@[simp] theorem oec : hSub i ti x d ρ q = ownIn ρ i fun _ => ti x ρ fun b _ ρ2 => ownIn ρ2 i fun o => putAt o b d fun o' => q (ρ2.set i (.own o')) := rfl
@[simp] theorem oed : hsNil x [] ρ q = q ρ := rfl
@[simp] theorem oee : hsCons g gs x (d :: ds) ρ q = g x d ρ fun ρ1 => gs x ds ρ1 q := rfl
@[simp] theorem oef : hT n gs x (.tup ds) ρ q = (ds.length = n ∧ gs x ds ρ q) := rfl
@[simp] theorem oeg : sAsgH te g k ρ = te k.ex ρ fun d t ρ1 => g k.ex d (leak d t ρ1) k.nx := rfl
end
def sWrPop (i j : Nat) (f g : FW) (ta : RA) : RS := fun k ρ => ownIn ρ i fun di => isLst di ∧ ownIn ρ j fun dj => isLst dj ∧ ta k.ex ρ fun ds ρ1 => ownIn ρ1 j fun dj => g dj ds fun dj' r => ownIn (ρ1.set j (.own dj')) i fun di => f di [r] fun di' _ => k.nx ((ρ1.set j (.own dj')).set i (.own di'))
@[simp] theorem oeh {i j : Nat} {f g : FW} {ta : RA} {k : Kd} {ρ : Env} : sWrPop i j f g ta k ρ = ownIn ρ i fun di => isLst di ∧ ownIn ρ j fun dj => isLst dj ∧ ta k.ex ρ fun ds ρ1 => ownIn ρ1 j fun dj => g dj ds fun dj' r => ownIn (ρ1.set j (.own dj')) i fun di => f di [r] fun di' _ => k.nx ((ρ1.set j (.own dj')).set i (.own di')) := rfl
section
variable {X : Cx} {T : Tx} {W : WX} {e : Expr} {es : List Expr} {rs : RA} {pos apos cpos apos2 cpos2 : Pos}
end
end Dc
set_option maxHeartbeats 1000000
namespace L2
open PySem PySem.Spec PyProof.Rows
section
variable {X : Cx}
end
end L2
namespace Dc
open PySem L2 PyProof.Rows PySem.W
section
variable {X : Cx} {T : Tx} {W : WX} {e : Expr} {es : List Expr} {rs : RA} {pos : Pos}
end
inductive Con : V → D → Prop
  | int (i : Int) : Con (.int i) (.int i)
  | str (x : Str) : Con (.str x) (.str x)
  | bl (b : Bool) : Con (.bl b) (.bl b)
theorem Con.den {T : Tx} {c : Dx T} {B : Hp} {v : V} {d : D} (h : Con v d) : Den c B v d := by
  cases h with
  | int i => exact .int i
  | str i => exact .str i
  | bl i => exact .bl i
structure ConPE (X : Cx) (e : Expr) (v : V) (d : D) : Prop where
  c : Con v d
  p : PE X e (tC v)
inductive ConK (X : Cx) (pos : Pos) : List (Option Expr) → List Expr → List (Key × V) → List (Key × D) → Prop
  | nil : ConK X pos [] [] [] []
  | cons {k v : Expr} {ks : List (Option Expr)} {vs : List Expr} {key : Key} {x : V} {d : D} {xs : List (Key × V)} {ds : List (Key × D)} : PE X k (tC (kV key)) → ConPE X v x d → ConK X pos ks vs xs ds → ConK X pos (some k :: ks) (v :: vs) ((key, x) :: xs) ((key, d) :: ds)
def mergeD (kvs more : List (Key × D)) : List (Key × D) := more.foldl (fun acc kv => putD acc kv.1 kv.2) kvs
section
variable {X : Cx} {T : Tx} {W : WX} {pos : Pos}
theorem ConK.den {keys : List (Option Expr)} {values : List Expr} {xs : List (Key × V)} {ds : List (Key × D)} (h : ConK X pos keys values xs ds) {c : Dx T} {B : Hp} : DenK c B xs ds := by
  induction h with
  | nil => exact .nil
  | cons a b _ ih => exact .cons b.c.den ih
theorem ConK.len {keys : List (Option Expr)} {values : List Expr} {xs : List (Key × V)} {ds : List (Key × D)} (h : ConK X pos keys values xs ds) : keys.length = xs.length := by
  induction h with
  | nil => rfl
  | cons a b _ ih => simp [ih]
def dDic (ds : List (Key × D)) : RE := fun _ ρ Q => Q (.dic (mergeD [] ds)) .f ρ
@[simp] theorem oei {ds : List (Key × D)} {x : XQ} {ρ : Env} {Q : EQ} : dDic ds x ρ Q = Q (.dic (mergeD [] ds)) .f ρ := rfl
end
end Dc
set_option maxHeartbeats 1000000
namespace Dc
open PySem L2 PyProof.Rows PySem.W
section
variable {T : Tx} {W : WX} {ta : RAt} {i j k : Nat}
variable {X : Cx} {a b d : Expr} {pos : Pos}
end
end Dc
set_option maxHeartbeats 1000000
namespace L2
open PySem PySem.Spec PyProof.Rows
section
variable {X : Cx}
end
end L2
namespace Dc
open PySem L2 PyProof.Rows PySem.W
def asT : D → D
  | .tpz ds => .tup ds
  | d => d
def dAsT (re : RE) : RE := fun x ρ Q => re x ρ fun d g ρ1 => Q (asT d) g ρ1
theorem Den.asT {T : Tx} {c : Dx T} {B : Hp} {v : V} {d : D} (h : Den c B v d) : Den c B v (asT d) := by
  cases h with
  | tpz h h1 h2 r => exact .tup (.inl (.inr ⟨_, h⟩)) r
  | non => exact .non
  | bl b => exact .bl b
  | int b => exact .int b
  | str b => exact .str b
  | tup h r => exact .tup h r
  | lst h n r => exact .lst h n r
  | dic h n r => exact .dic h n r
  | obj h r => exact .obj h r
  | ptr h => exact .ptr h
  | adr => exact .adr
  | clo h => exact .clo h
  | scr h => exact .scr h
  | exc h h1 r => exact .exc h h1 r
theorem OwnAt.asT {T : Tx} {c : Dx T} {B H : Hp} {a : Addr} {d : D} (h : OwnAt c B H a d) : asT d = d := by
  cases h <;> rfl
theorem Tg.asT {T : Tx} {c : Dx T} {σ : L2.St} {B H : Hp} {ρ : Env} {v : V} {d : D} {g : Tag} (R : Rel c σ B H ρ) (h : Tg c σ B H ρ v d g) : Tg c σ B H ρ v (Dc.asT d) g := by
  cases h with
  | p h => exact .p h.asT
  | f m o n => rw [o.asT]; exact .f m o n
  | b h1 h2 =>
    have := (R.ownB h1 h2).2.asT
    rw [this]; exact .b h1 h2
def fTupleZ : FN
  | [.lst xs], k => k (.tpz xs) .p
  | _, _ => False
def pairD (kv : Key × D) : D := .tup [keyD kv.1, kv.2]
section
variable {X : Cx} {T : Tx} {W : WX} {e : Expr} {re : RE}
@[simp] theorem oej {x : XQ} {ρ : Env} {Q : EQ} : dAsT re x ρ Q = re x ρ fun d g ρ1 => Q (asT d) g ρ1 := rfl
@[simp] theorem v_asT_z {ds : List D} : asT (.tpz ds) = .tup ds := rfl
@[simp] theorem v_asT_t {ds : List D} : asT (.tup ds) = .tup ds := rfl
@[simp] theorem v_asT_i {i : Int} : asT (.int i) = .int i := rfl
@[simp] theorem v_asT_l {ds : List D} : asT (.lst ds) = .lst ds := rfl
@[simp] theorem v_tuplz {xs : List D} {k : D → Tag → Prop} : fTupleZ [.lst xs] k = k (.tpz xs) .p := rfl
end
def dMethR (cn n : Nat) (sp : Sps) (to : RE) (ta : RA) : RE := fun x ρ Q => to x ρ fun d _ ρ1 => asObj cn d fun os => ta x ρ1 fun es ρ2 => es.length + 1 = n ∧ sp (.obj cn os :: es.reverse) (fun d o => Q d (tagO o) ρ2) (fun e => x e ρ2)
section
variable {X : Cx} {T : Tx} {k n cn : Nat} {f C : Addr} {fd : FuncData} {ps ks : List Str} {sp : Sps} {W : WX} {m : Str} {pos apos : Pos} {o : Expr} {kws : List Keyword} {to : RE} {ta : RA} {rs : RA} {t : TA} {tE : TE} {pl : Sem Bool}
@[simp] theorem oek {x : XQ} {ρ : Env} {Q : EQ} : dMethR cn n sp to rs x ρ Q = to x ρ fun d _ ρ1 => asObj cn d fun os => rs x ρ1 fun es ρ2 => es.length + 1 = n ∧ sp (.obj cn os :: es.reverse) (fun d o => Q d (tagO o) ρ2) (fun e => x e ρ2) := rfl
end
end Dc
set_option maxHeartbeats 1000000
namespace PySem
open PySem.SeqAt AutoSeq1 MeetsSeq MeetsSeq2 MeetsSeq3 SeqRoads2 MeetsSeq
namespace EqInst
section
variable {A : Around} {s : Shared} {x C dx : Addr} {sl : Array (Option Value)}
end
end EqInst
end PySem
namespace Dc
open PySem L2 PyProof.Rows PySem.W PySem.EqInst
section
variable {prog : Program} {w : World} {A : Around} {E : Value → Shared → Prop} {s : Shared} {K : Frag} {x C L f : Addr} {h₀ : Heap} {m : Str → Option Value} {ox : Obj} {od : Option Obj} {a : Value} {T id : String}
end
structure NotB (K : Frag) (C : Addr) : Prop where
  non : mroIn K C (.type "NoneType") = some false
  bl : mroIn K C (.type "bool") = some false
  int : mroIn K C (.type "int") = some false
  str : mroIn K C (.type "str") = some false
  lst : mroIn K C (.type "list") = some false
  tup : mroIn K C (.type "tuple") = some false
  dic : mroIn K C (.type "dict") = some false
section
variable {X : Cx} {T : Tx} {k cn : Nat} {f : Addr} {fd : FuncData} {ps : List Str} {sp : Sps}
end
end Dc
set_option maxHeartbeats 1000000
namespace Dc
open PySem L2 PyProof.Rows PySem.W PySem.EqInst
def dOpR (f : F2) (so sr : Sps) (ta tb : RE) : RE := fun x ρ Q => ta x ρ fun d1 g1 ρ1 => tb x ρ1 fun d2 g2 ρ2 => match d1 with
  | .obj k os => so [.obj k os, d2] (fun d o => Q d (tagO o) (leak d2 g2 ρ2)) (fun _ => False)
  | d1 => match d2 with
    | .obj k os => g1 = .p ∧ sr [.obj k os, d1] (fun d o => Q d (tagO o) (leak (.obj k os) g2 ρ2)) (fun _ => False)
    | d2 => f d1 d2 fun d g => Q d g ρ2
section
variable {T : Tx} {W : WX} {f : F2} {so sr : Sps} {ta tb : RE}
end
section
variable {X : Cx} {T : Tx} {k cn : Nat} {f : Addr} {fd : FuncData} {ps : List Str} {sp s2 : Sps} {f0 : F2} {op : CmpOp}
end
section
variable {X : Cx} {T : Tx} {W : WX} {f : F2} {so sr : Sps} {a b : Expr} {ra rb : RE} {pos : Pos} {op : CmpOp}
@[simp] theorem oem {x : XQ} {ρ : Env} {Q : EQ} : dOpR f so sr ra rb x ρ Q = ra x ρ fun d1 g1 ρ1 => rb x ρ1 fun d2 g2 ρ2 => match d1 with
  | .obj k os => so [.obj k os, d2] (fun d o => Q d (tagO o) (leak d2 g2 ρ2)) (fun _ => False)
  | d1 => match d2 with
    | .obj k os => g1 = .p ∧ sr [.obj k os, d1] (fun d o => Q d (tagO o) (leak (.obj k os) g2 ρ2)) (fun _ => False)
    | d2 => f d1 d2 fun d g => Q d g ρ2 := rfl
end
end Dc
set_option maxHeartbeats 1000000
namespace PySem.SeqAt
open AutoSeq1 (wpAny_loadPart')
open MeetsSeq MeetsSeq2 MeetsSeq3 SeqRoads2
end PySem.SeqAt
namespace Dc
open PySem L2 PyProof.Rows PySem.W PySem.EqInst
section
variable {prog : Program} {w : World} {A : Around} {E : Value → Shared → Prop} {s : Shared} {K : Frag} {x C L f : Addr} {h₀ : Heap} {m : Str → Option Value} {ox : Obj} {od : Option Obj} {b tb : Value}
end
def inO (so : Sps) (x : D) (Q : Bool → Prop) : List D → Prop
  | [] => Q false
  | y :: ys => Q true ∧ so [y, x] (fun d _ => match d with | .bl b => if b = true then Q true else inO so x Q ys | _ => False) (fun _ => False)
section
variable {X : Cx} {T : Tx} {k cn : Nat} {f : Addr} {fd : FuncData} {ps : List Str} {sp : Sps}
theorem Hold.ent {c : Dx T} {B H H0 : Hp} (h : Hold c B H) : Hold (c.ent H0 c.fb) B H := ⟨h.ex, h.pail, h.fb⟩
def dNI (cn : Nat) (sp : Sps) (ta tb : RE) : RE := fun x ρ Q => ta x ρ fun d1 g1 ρ1 => g1 = .p ∧ tb x ρ1 fun d2 g2 ρ2 => g2 = .p ∧ asObj cn d1 fun os => ∃ rows : List (List D), d2 = .lst (rows.map (D.obj cn)) ∧ inO sp (.obj cn os) (fun b => Q (.bl (!b)) .p ρ2) (rows.map (D.obj cn))
variable {W : WX} {a b : Expr} {ra rb : RE} {pos : Pos}
@[simp] theorem oen {x : XQ} {ρ : Env} {Q : EQ} : dNI cn sp ra rb x ρ Q = ra x ρ fun d1 g1 ρ1 => g1 = .p ∧ rb x ρ1 fun d2 g2 ρ2 => g2 = .p ∧ asObj cn d1 fun os => ∃ rows : List (List D), d2 = .lst (rows.map (D.obj cn)) ∧ inO sp (.obj cn os) (fun b => Q (.bl (!b)) .p ρ2) (rows.map (D.obj cn)) := rfl
end
end Dc
set_option maxHeartbeats 2000000
namespace Dc
open PySem L2 PyProof.Rows PySem.W PySem.HandSPX Builtin Builtin.ObjectAttr

def xA (f : Str) (p1 p2 : Pos) : Arguments := { posonlyargs := [], args := [{ arg := "self", annotation := none, pos := p1 }, { arg := f, annotation := none, pos := p2 }], vararg := none, kwonlyargs := [], kw_defaults := [], kwarg := none, defaults := [] }
def xB (f : Str) (q1 q2 q3 q4 : Pos) : List Stmt := [.Assign [.Attribute (.Name "self" q1) f q2] (.Name f q3) q4]
def xSc (f : Str) : Scope := { kind := .function, names := [(PySem.Str.ofString "self", .local), (f, .local)], isGenerator := false, isCoroutine := false, more := [] }
structure XTxt (K : Frag) (mg : Str → Option Value) (x : Str) (C fI : Addr) (f : Str) : Prop where
  gC : mg x = some (.ref C)
  nf : f = "given" ∨ f = "index"
  base : ∃ (B newId initId : String) (bm : List Value), ExcBaseFacts B newId initId bm ∧ StoreFacts B bm "object.__setattr__" "object" ∧ excInitIn K C bm newId = true ∧ excOver K C bm = true
  hd : hasDictIn K C = true
  tk : takerIn K C f = some none
  sa : findIn K (.ref C) "__setattr__" = some (some (.builtin "object.__setattr__"))
  ga : findIn K (.ref C) "__getattribute__" = some (some (.builtin "BaseException.__getattribute__"))
  gg : findIn K (.ref C) "__getattr__" = some none
  no : findIn K (.ref C) f = some none
  iC : findIn K (.ref C) "__init__" = some (some (.ref fI))
  tC : typeIn K (.ref fI) = some (.type "function")
  kC : keepIn K (.ref C) = true
  ex : subIn K (.ref C) (.type "BaseException") = some true
  ty : typeIn K (.ref C) = some (.type "type")
  fn : ∃ (oc : Value) (od : Option Addr) (q : Str) (kV doc pm : Value) (an : Option Addr) (cdv ct : Value) (osl : Array (Option Value)) (p1 p2 q1 q2 q3 q4 : Pos),
    K.lookup fI = some ⟨oc, od, .func (fnOf "__init__" q (xA f p1 p2) (xB f q1 q2 q3 q4) (xSc f) .none kV doc pm an cdv ct), osl⟩ ∧ codeIn K cdv q = true
structure XStored (h h' : Heap) (e C dx t : Addr) (f : Str) (v : Value) : Prop where
  keep : ∀ b o, b ≠ e → h.get? b = some o → h'.get? b = some o
  obj : h'.get? e = some { cls := .ref C, dict := some dx, data := .fields #[.ref t, .none, .none, .none, .bool false, .none] }
  big : h.objs.size ≤ dx
  ne : dx ≠ e
  ns : h'.Ns1 dx (fun y => if y = f then some v else none)
structure XMade (h h' : Heap) (e C d : Addr) (f : Str) (v : Value) : Prop where
  keep : ∀ b o, h.get? b = some o → h'.get? b = some o
  new : h.objs.size ≤ e
  obj : ∃ oe vs, h'.get? e = some oe ∧ oe.cls = .ref C ∧ oe.dict = some d ∧ oe.data = .fields vs ∧ vs[1]? = some .none
  big : h.objs.size ≤ d
  ne : d ≠ e
  ns : h'.Ns1 d (fun y => if y = f then some v else none)
section
variable {prog : Program} {w : World} {A : Around} {R : Result → Shared → Prop} {s : Shared} {K : Frag} {mg : Str → Option Value} {x f : Str} {C fI : Addr}
theorem x_store (T : XTxt K mg x C fI f) {e t0 : Addr} {tk : Tok} {v : Value} (X : K.In s.heap) (he : s.heap.get? e = some (excO C t0))
    (hq : ∀ h' tk' dx, XStored s.heap h' e C dx t0 f v → R (.ok (.ret .none)) { s with heap := h', toks := tk' }) :
    codeAny (model prog w) A (.call (.builtin "object.__setattr__") ⟨[.ref e, .str f tk, v], []⟩) R s := by
  obtain ⟨B, newId, initId, bm, FB, SF, hi, ho⟩ := T.base
  obtain ⟨cd, hcl, hdd⟩ := any_some T.hd
  obtain ⟨hp, g, d, t, os⟩ := s
  have hcls : W.Looks (model prog w) hp (classData C) cd := W.looks_clsIn X hcl
  have hes : e ≠ hp.objs.size := Nat.ne_of_lt (Heap.lt_size he)
  refine osa_openX SF X (ox := excO C t0) (od := none) ⟨he, rfl, rfl, trivial⟩ ho T.tk fun b => ?_
  obtain ⟨nm, bs, mro, ns, qn, dct, sn, sb, ab, col, del⟩ := cd
  dsimp only at hdd
  subst hdd
  show wpAny _ _ (storeInOwnDict (.ref e) (.ref C) (.str f tk) f v b) _ _ _
  unfold storeInOwnDict ownDictForStores
  repeat (first | with_reducible refine store_in_new ?_ ?_ | with_reducible refine wpAny_loadPart_at he ?_ | with_reducible refine hcls.at ?_ | wp_step)
  · exact ⟨_, #[], _, (Heap.get?_update_ne _ _ _ _ hes.symm).trans (Heap.get?_push_at rfl rfl), rfl, fun y hy => absurd hy (by simp), fun _ => rfl⟩
  · intro h' tk' hn' hs
    have he1 : (hp.push { cls := .type "dict", data := .dict #[] }).get? e = some (excO C t0) := Heap.get?_push_of_some _ he
    refine hq h' tk' hp.objs.size ⟨fun b' o hb hob => ?_, ?_, Nat.le_refl _, hes.symm, hn'⟩
    · exact (hs.2 b' (Nat.ne_of_lt (Heap.lt_size hob))).trans ((Heap.get?_update_ne _ _ _ _ hb).trans (Heap.get?_push_of_some _ hob))
    · exact (hs.2 e hes).trans (Heap.get?_update_self _ he1 rfl)
theorem x_init (T : XTxt K mg x C fI f) {e t0 : Addr} {v : Value} (X : K.In s.heap) (lim : s.heap.NoLimit) (he : s.heap.get? e = some (excO C t0)) (room : A.depth < recursionLimit)
    (hq : ∀ h' tk dx, XStored s.heap h' e C dx t0 f v → R (.ok (.ret .none)) { s with heap := h', toks := tk }) :
    codeAny (model prog w) A (.call (.ref fI) ⟨[.ref e, v], []⟩) R s := by
  obtain ⟨oc, od, q, kV, doc, pm, an, cdv, ct, osl, p1, p2, q1, q2, q3, q4, ho, hcd⟩ := T.fn
  have T' := T
  rcases T.nf with rfl | rfl
  all_goals
    refine Att.call_fn (binds := [("self", .ref e), (_, v)]) X lim ho hcd room (BindsTo.of_eq (by first | rfl | with_unfolding_all rfl)) (by first | rfl | decide | with_unfolding_all rfl) (fun s₁ IC => ?_) rfl rfl rfl
    obtain ⟨h1, tk1, rfl⟩ := IC.toInCall.same
    have k : ∀ b o, s.heap.get? b = some o → h1.get? b = some o := IC.toInCall.keep
    have hn := IC.toInCall.ns
    show wpAny _ _ (execs _ _) _ _ _
    refine wpAny_execs_cons (plainObj_wpAny_Assign_Attribute ?_)
    refine wpAny_Name (wpAny_loadName_local (v := v) (by first | rfl | with_unfolding_all rfl) (by first | rfl | with_unfolding_all rfl) hn (by first | rfl | with_unfolding_all rfl | kernel_rfl) ?_) (by decide)
    refine wpAny_Name (wpAny_loadName_local (v := .ref e) (by first | rfl | with_unfolding_all rfl) (by first | rfl | with_unfolding_all rfl) hn (by first | rfl | with_unfolding_all rfl | kernel_rfl) ?_) (by decide)
    refine set_plain (X.keeps k) (ox := excO C t0) (od := none) ⟨k _ _ he, rfl, rfl, trivial⟩ T.sa ?_
    refine x_store T' (s := { s with heap := h1, toks := _ }) (X.keeps k) (k _ _ he) (fun h' tk' dx S => ?_)
    show wpAny _ _ (execs _ _) _ _ _
    exact wpAny_execs_nil (hq h' tk' dx ⟨fun b o hb z => S.keep b o hb (k b o z), S.obj, Nat.le_trans (Nat.le_of_lt hn.lt) S.big, S.ne, S.ns⟩)
theorem x_made (T : XTxt K mg x C fI f) {v : Value} (X : K.In s.heap) (lim : s.heap.NoLimit) (room : A.depth + 1 < recursionLimit)
    (hq : ∀ h' tk e d, XMade s.heap h' e C d f v → R (.ok (.ret (.ref e))) { s with heap := h', toks := tk }) :
    codeAny (model prog w) A (.call (.ref C) ⟨[v], []⟩) R s := by
  obtain ⟨B, newId, initId, bm, FB, SF, hi, _⟩ := T.base
  obtain ⟨nm, N, qn, bs, bm', hdct, sn, sub, ab, col, dd, k0, k1, k2, k3, k5, hC, hb⟩ := excInit_of X hi
  obtain ⟨hp, g, dr, tk, os⟩ := s
  have k : ∀ b o, hp.get? b = some o → ((hp.push (kdv_tup [v])).push (excO C hp.objs.size)).get? b = some o := fun b o e => Heap.get?_push_of_some _ (Heap.get?_push_of_some _ e)
  have hget : ((hp.push (kdv_tup [v])).push (excO C hp.objs.size)).get? (hp.objs.size + 1) = some (excO C hp.objs.size) := by heap_get
  refine call_own FB hb hC (looks_findIn X T.iC) (fun self => bind_fn X self T.tC) (by rw [sizeLine_eq]; exact (by decide : 1 ≤ 16777216)) ?_
  refine x_init (s := ⟨(hp.push (kdv_tup [v])).push (excO C hp.objs.size), g, dr, tk, os⟩) T (X.keeps k) (lim.keeps k) hget ?_ fun h' tk' dx S => ?_
  · show A.depth + 1 < recursionLimit
    exact room
  · have big : hp.objs.size + 1 + 1 ≤ dx := by
      have q := S.big
      rw [Heap.size_push, Heap.size_push] at q
      exact q
    exact ⟨rfl, hq h' tk' (hp.objs.size + 1) dx ⟨fun b o e => S.keep b o (Nat.ne_of_lt (Nat.lt_succ_of_lt (Heap.lt_size e))) (k b o e), Nat.le_succ _, ⟨_, _, S.obj, rfl, rfl, rfl, rfl⟩, Nat.le_trans (Nat.le_succ _) (Nat.le_trans (Nat.le_succ _) big), S.ne, S.ns⟩⟩
end
theorem relO_one {v : V} {u : Value} {f : Str} (r : RelV v u) (y : Str) : RelO (List.lookup y [(f, v)]) (if y = f then some u else none) := by
  by_cases e : y = f
  · subst e
    rw [if_pos rfl, List.lookup_cons_self]
    exact r
  · have q : (y == f) = false := by simpa using e
    rw [if_neg e, List.lookup_cons, q]
    trivial
def tMkX (C : Addr) (f : Str) (ta : TA) : L2.St → Hp → XK → Prop := fun σ H Q => ta σ H fun vs H1 => ∃ v, vs = [v] ∧ ∀ d, H1 d = none → Q (.ref C) (some d) (upd H1 d (.xd [(f, v)]))
section
variable {X : Cx} {C fI : Addr} {x f : Str}
theorem pmk_x {a : Expr} {ta : TA} {p pos : Pos} {k : Nat} (T : XTxt X.K X.mg x C fI f) (dp : X.A.depth + 3 * k + 5 < recursionLimit) (ha : PA X [a] ta) (hg : Gl X x := by rfl) (hdb : (x == ("__debug__" : Str)) = false := by decide)
    (he : starEach (a :: []) X.env = (false, eval a X.env) :: starEach [] X.env := by rfl) (hpl : (backTo pos (starEach [] X.env)).any (·.1) = false := by rfl) :
    PMk X (.Call (.Name x p) [a] [] pos) (tMkX C f ta) := by
  intro pins s σ H Q I h
  refine wpAny_Call_Name_kw (ld_glob I hg T.gC ?_ hdb)
  refine PySem.W.callWith_K (h₀ := X.base) I.ok.mod.kin T.kC (thn (ha.run pos pins s σ H _ I h) fun us s1 hh => ?_) he hpl
  obtain ⟨vs, H1, I1, r1, v, ev, q1⟩ := hh
  subst ev
  refine ⟨I1.kIn, ?_⟩
  cases r1 with
  | @cons _ u _ us rv rn =>
    cases rn
    show wpAny _ _ (call (.ref C) [u]) _ _ _
    have lim := I1.nolimit
    obtain ⟨hp, g, dr, tk, os⟩ := s1
    refine wpAny_call (x_made T I1.kIn lim (by omega) fun h' tk' e d M => ?_)
    show MkP X pins σ Q (.ref e) ⟨h', g, dr, tk', os⟩
    obtain ⟨oe, fv, hoe, hc, hd, hdat, h1⟩ := M.obj
    have hns := M.ns
    -- all but the exception
    obtain ⟨G, g1, g2⟩ := restrict h' fun b => decide (b ≠ e)
    have gk : ∀ b, b ≠ e → G.get? b = h'.get? b := fun b hb => g1 b (decide_eq_true hb)
    have ge : G.get? e = none := g2 e (by simp)
    have old : ∀ b o, hp.get? b = some o → G.get? b = some o := fun b o q => (gk b (Nat.ne_of_lt (Nat.lt_of_lt_of_le (Heap.lt_size q) M.new))).trans (M.keep b o q)
    have ob : ObjOk X.prog X.w (upd H1 d (.xd [(f, v)])) G d (.xd [(f, v)]) := ⟨_, hns.at (fun o q => (gk d M.ne).trans q), fun y => relO_one rv y⟩
    have J : Inv X pins σ (upd H1 d (.xd [(f, v)])) ⟨G, g, dr, tk', os⟩ := I1.laid (t' := tk') old M.big ob
    refine ⟨e, oe, fv, ⟨G, g, dr, tk', os⟩, _, .ref C, some d, rfl, J, fun b o q => ?_, ge, hoe, ⟨hc, hd⟩, hdat, h1, ?_, rfl, I1.bare, raises_own T.ex T.ty, q1 d (I1.hok.fresh M.big)⟩
    · have q : G.get? b = some o := q
      by_cases hb : b = e
      · rw [hb, ge] at q; cases q
      · exact (gk b hb).symm.trans q
    · rw [upd_ne (Ne.symm M.ne)]
      exact I1.hok.fresh M.new
end
def sRaise (n : Nat) (t : RA) : RS := fun k ρ => t k.ex ρ fun ds ρ1 => ∃ d, ds = [d] ∧ k.ex (.exc n [d]) ρ1
theorem qs_raise {X : Cx} {T : Tx} {W : WX} {fI : Addr} {x : Str} {n : Nat} {a : Expr} {t : RA} {p pos pos2 : Pos} {k : Nat} (hc : X.calm = true) (Tx : XTxt X.K X.mg x (T.cl n) fI (T.xf n)) (hr : Room k X.A) (tk : Takes X W) (ha : PA X [a] (liftA T W t)) (hg : Gl X x := by rfl)
    (hdb : (x == ("__debug__" : Str)) = false := by decide) (he : starEach (a :: []) X.env = (false, eval a X.env) :: starEach [] X.env := by rfl) (hpl : (backTo pos (starEach [] X.env)).any (·.1) = false := by rfl) :
    PS X (.Raise (some (.Call (.Name x p) [a] [] pos)) none pos2) (liftS T W (sRaise n t)) := by
  refine (ps_raise hc tk (pmk_x Tx hr.dp ha hg hdb he hpl)).imp fun D σ H h => ?_
  obtain ⟨c, B, ρ, k, R, XX, h, _⟩ := h
  refine ⟨c, B, ρ, _, _, R, XX, h, fun ds ρ1 vs B1 H1 h1 e1 k1 R1 t1 => ?_⟩
  obtain ⟨d, rfl, hx⟩ := h1
  cases t1 with
  | @cons v _ _ _ n1 rr =>
    cases rr
    refine ⟨v, rfl, fun p hp => ?_⟩
    have e2 : Ex B1 (upd B1 p (.xd [(T.xf n, v)])) := Ex.new (R1.ex.free hp)
    exact XX _ _ _ _ _ _ _ hx (e1.trans e2) (R1.newB hp) (.one upd_same (n1.mono e2))
end Dc
set_option maxHeartbeats 2000000
namespace Dc
open PySem L2 PyProof.Rows PySem.W L2H

abbrev Tx.on (T : Tx) (a : Addr) (n : Nat) (p : Addr) : Tx := { T with hot := some (a, n, p) }
abbrev Dx.on {T : Tx} (c : Dx T) (a : Addr) (n : Nat) (p : Addr) : Dx (T.on a n p) := ⟨c.pa, c.H0, c.fb⟩
mutual
theorem Den.on {T : Tx} (ht : T.hot = none) {c : Dx T} {B : Hp} {a p : Addr} {n : Nat} : ∀ {v : V} {d : D}, Den c B v d → Den (c.on a n p) B v d
  | _, _, .non => .non
  | _, _, .bl b => .bl b
  | _, _, .int i => .int i
  | _, _, .str x => .str x
  | _, _, .tup h r => .tup h (Dens.on ht r)
  | _, _, .lst h n r => .lst h n (Dens.on ht r)
  | _, _, .dic h n r => .dic h n (DenK.on ht r)
  | _, _, .obj h r => .obj h (Dens.on ht r)
  | _, _, .ptr h => .ptr h
  | _, _, .adr => .adr
  | _, _, .clo h => .clo h
  | _, _, .scr h => .scr h
  | _, _, .exc h h1 r => by rw [ht] at h; cases h
  | _, _, .tpz h h1 h2 r => .tpz h h1 h2 (Dens.on ht r)
theorem Dens.on {T : Tx} (ht : T.hot = none) {c : Dx T} {B : Hp} {a p : Addr} {n : Nat} : ∀ {vs : List V} {ds : List D}, Dens c B vs ds → Dens (c.on a n p) B vs ds
  | _, _, .nil => .nil
  | _, _, .cons h r => .cons (Den.on ht h) (Dens.on ht r)
theorem DenK.on {T : Tx} (ht : T.hot = none) {c : Dx T} {B : Hp} {a p : Addr} {n : Nat} : ∀ {vs : List (Key × V)} {ds : List (Key × D)}, DenK c B vs ds → DenK (c.on a n p) B vs ds
  | _, _, .nil => .nil
  | _, _, .cons h r => .cons (Den.on ht h) (DenK.on ht r)
end
theorem Hold.on {T : Tx} {c : Dx T} {B H : Hp} (h : Hold c B H) (a : Addr) (n : Nat) (p : Addr) : Hold (c.on a n p) B H := ⟨h.ex, h.pail, h.fb⟩
theorem Hold.off {T : Tx} {c : Dx T} {B H : Hp} {a : Addr} {n : Nat} {p : Addr} (h : Hold (c.on a n p) B H) : Hold c B H := ⟨h.ex, h.pail, h.fb⟩
structure HotX (X : Cx) (T : Tx) (a : Addr) (oe : Obj) (n : Nat) (p : Addr) : Prop where
  K : X.K = T.K
  hot : T.hot = some (a, n, p)
  pn : (a, oe) ∈ X.pn
  zc : Zc (.ref (T.cl n)) (some p) oe
  fl : ∃ vs, oe.data = .fields vs
  c : ExcC X.K (T.cl n)
  no : findIn X.K (.ref (T.cl n)) (T.xf n) = some none
section
variable {X : Cx} {T : Tx} {a p : Addr} {oe : Obj} {n : Nat} {pins : List (Addr × Obj)} {σ : L2.St} {H : Hp} {s : Shared}
theorem HotX.inst (h : HotX X T a oe n p) (I : Inv X pins σ H s) {v : V} (e : H p = some (.xd [(T.xf n, v)])) : ∃ od u, InstAt s.heap a oe (T.cl n) (some od) ∧ lookIn (T.xf n) od = some (some u) ∧ RelV v u := by
  obtain ⟨hget, _⟩ := I.pin (a, oe) (List.mem_append_left _ h.pn)
  obtain ⟨vs, hv⟩ := h.fl
  have hx : ObjOk X.prog X.w H s.heap p (.xd [(T.xf n, v)]) := I.hok p _ e
  obtain ⟨mA, hns, hr⟩ := hx
  obtain ⟨od, ho, hl⟩ := lookIn_ns hns
  have l : List.lookup (T.xf n) [(T.xf n, v)] = some v := List.lookup_cons_self
  obtain ⟨u, hu, ru⟩ := RelO.some_of (v := v) (o := mA (T.xf n)) (by rw [← l]; exact hr (T.xf n))
  refine ⟨od, u, ⟨hget, h.zc.1, by unfold notCls; rw [hv] <;> rfl, by rw [h.zc.2]; exact ho⟩, by rw [hl, hu], ru⟩
theorem HotX.den (h : HotX X T a oe n p) {c : Dx T} {B : Hp} {v : V} {m : Nat} {ds : List D} (d : Den c B v (.exc m ds)) : v = .ref a ∧ m = n ∧ ∃ w d0, ds = [d0] ∧ B p = some (.xd [(T.xf n, w)]) ∧ Den c B w d0 := by
  cases d with
  | exc e1 e2 r =>
    rw [h.hot] at e1
    cases e1
    exact ⟨rfl, rfl, _, _, rfl, e2, r⟩
end

def dIsX (xt : Nat → Option Bool) (te : RE) : RE := fun x ρ Q => te x ρ fun d _ ρ1 => match d with
  | .exc n _ => ∃ b, xt n = some b ∧ Q (.bl b) .p ρ1
  | _ => False
def rIsX (X : Cx) (T : Tx) (a : Addr) (n : Nat) (p : Addr) (u : Value) (c0 : V) : List V → Hp → VK → Prop := fun xs H Q => ∃ (v : V) (b : Bool), xs = [.ref a, c0] ∧ H p = some (.xd [(T.xf n, v)]) ∧ kitOne X.K (.ref (T.cl n)) u = some b ∧ Q (.bl b) H
section
variable {X : Cx} {T : Tx} {W : WX} {a p : Addr} {oe : Obj} {n : Nat} {e : Expr} {re : RE} {pos np q : Pos} {xt : Nat → Option Bool}
theorem call_isX (h : HotX X T a oe n p) {u : Value} {c0 : V} (hc : ClsV c0 u) : CallR X (.builtin "isinstance") (rIsX X T a n p u c0) := by
  intro pins s σ H xs us Q I r hq
  obtain ⟨v, b, rfl, e, hk, q⟩ := hq
  cases r with
  | cons rx rr =>
    cases rr with
    | cons rt rr =>
      cases rr
      cases rx
      have ec := hc.eq rt
      subst ec
      obtain ⟨od, w, J, _, _⟩ := h.inst I e
      obtain ⟨cd, hcd, _⟩ := any_some h.c.hd
      exact kia_one (kitx_exc (od := some od) (by rw [hcd]; rfl) h.c.hg h.c.hk h.c.hs h.c.ha h.c.hn h.c.ht h.c.hm) I.kIn J hk (fun z => nomatch z) fun tk => ⟨.bl b, H, I.kept (t' := tk) fun _ _ z => z, rfl, q⟩
theorem le_isX (h : HotX X T a oe n p) {u : Value} {c0 : V} (hf : ∀ b, xt n = some b → kitOne X.K (.ref (T.cl n)) u = some b) : ∀ σ H Q', liftE T W (dIsX xt re) σ H Q' → tCB (rIsX X T a n p u c0) (tCons (liftE T W re) (tCons (tC c0) tNil)) σ H Q' := by
  rintro σ H Q' ⟨c, B, ρ, x, Q, R, XX, hh, q⟩
  refine ⟨c, B, ρ, x, _, R, XX, hh, fun d g ρ1 v B1 H1 h1 e1 k1 R1 t1 => ?_⟩
  have t1 := t1.tm R1
  cases d <;> first | exact h1.elim | skip
  case exc m ds =>
    obtain ⟨b, hb, h1⟩ := h1
    cases t1 with
    | den t1 =>
      obtain ⟨rfl, rfl, w, d0, rfl, e2, _⟩ := h.den t1
      exact ⟨w, b, rfl, R1.ex _ _ e2, hf b hb, q _ _ _ _ B1 H1 h1 e1 k1 R1 (.p (.bl b))⟩
    | own _ o => cases o
theorem qe_isXT (h : HotX X T a oe n p) {t : String} {x : Str} (hf : ∀ b, xt n = some b → kitOne X.K (.ref (T.cl n)) (.type t) = some b) (hm : X.mg "isinstance" = none) (hmx : X.mg x = none) (hv : bootBuiltins x = some (.type t)) (he : PE X e (liftE T W re)) (hg : Gl X "isinstance" := by rfl) (hgx : Gl X x := by rfl) (hnx : x ≠ "__name__" := by decide) (hdx : (x == ("__debug__" : Str)) = false := by decide)
    (hb : bootBuiltins "isinstance" = some (.builtin "isinstance") := by rfl) (hs1 : starEach (.Name x np :: []) X.env = (false, eval (.Name x np) X.env) :: starEach [] X.env := by rfl) (hs : starEach (e :: [.Name x np]) X.env = (false, eval e X.env) :: starEach [.Name x np] X.env := by rfl)
    (hpl : (backTo pos (starEach [.Name x np] X.env)).any (·.1) = false := by rfl) : PE X (.Call (.Name "isinstance" q) [e, .Name x np] [] pos) (liftE T W (dIsX xt re)) :=
  (pe_callB (call_isX h (.ty t)) hg hm hb (pa_cons he (pa_cons (pe_bltn (v := .ty t) hgx hmx hv rfl hnx hdx) pa_nil hs1) hs) (by decide) (by decide) hs hpl).imp (le_isX h hf)
theorem qe_isXC (h : HotX X T a oe n p) {C : Addr} {x : Str} (hf : ∀ b, xt n = some b → kitOne X.K (.ref (T.cl n)) (.ref C) = some b) (hm : X.mg "isinstance" = none) (hmx : X.mg x = some (.ref C)) (he : PE X e (liftE T W re)) (hg : Gl X "isinstance" := by rfl) (hgx : Gl X x := by rfl) (hdx : (x == ("__debug__" : Str)) = false := by decide)
    (hb : bootBuiltins "isinstance" = some (.builtin "isinstance") := by rfl) (hs1 : starEach (.Name x np :: []) X.env = (false, eval (.Name x np) X.env) :: starEach [] X.env := by rfl) (hs : starEach (e :: [.Name x np]) X.env = (false, eval e X.env) :: starEach [.Name x np] X.env := by rfl)
    (hpl : (backTo pos (starEach [.Name x np] X.env)).any (·.1) = false := by rfl) : PE X (.Call (.Name "isinstance" q) [e, .Name x np] [] pos) (liftE T W (dIsX xt re)) :=
  (pe_callB (call_isX h (.own C)) hg hm hb (pa_cons he (pa_cons (pe_glob (v := .ref C) hgx hmx rfl hdx) pa_nil hs1) hs) (by decide) (by decide) hs hpl).imp (le_isX h hf)
def dXfc (ok : Nat → Bool) (te : RE) : RE := fun x ρ Q => te x ρ fun d _ ρ1 => match d with
  | .exc n [d0] => ok n = true ∧ Q d0 .p ρ1
  | _ => False
theorem qe_xf (h : HotX X T a oe n p) {f : Str} {ok : Nat → Bool} (hf : ok n = true → T.xf n = f) (he : PE X e (liftE T W re)) (hb : attributeBase e f X.env (eval e X.env) = eval e X.env := by rfl) : PE X (.Attribute e f pos) (liftE T W (dXfc ok re)) := by
  refine ⟨fun pins s σ H Q' I ⟨c, B, ρ, x, Q, R, XX, hh, q⟩ => ?_⟩
  refine attr_of hb (thn (he.run pins s σ H (fun v H1 => ∃ w, v = .ref a ∧ H1 p = some (.xd [(T.xf n, w)]) ∧ T.xf n = f ∧ Q' w H1) I ⟨c, B, ρ, x, _, R, XX, hh, fun d g ρ1 v B1 H1 h1 e1 k1 R1 t1 => ?_⟩) fun u s1 hu => ?_)
  · have t1 := t1.tm R1
    split at h1
    · obtain ⟨ho, h1⟩ := h1
      cases t1 with
      | den t1 =>
        obtain ⟨rfl, rfl, w, d0, e0, e2, r⟩ := h.den t1
        cases e0
        exact ⟨w, rfl, R1.ex _ _ e2, hf ho, q _ _ _ _ B1 H1 h1 e1 k1 R1 (.p r)⟩
      | own _ o => cases o
    · exact h1.elim
  · obtain ⟨v, H1, I1, rv, w, rfl, e2, hxf, hq⟩ := hu
    obtain rfl : u = Value.ref a := rv
    obtain ⟨od, y, J, hl, ry⟩ := h.inst I1 e2
    have no := h.no
    rw [hxf] at hl no
    exact HandSPX.exc_get I1.kIn J h.c.hg h.c.hk h.c.hs (findObj_own h.c.hd no rfl hl) (handed_of ry) ⟨w, H1, I1.tok _, ry, hq⟩
end

def dCntB (to te : RE) : RE := fun x ρ Q => to x ρ fun d1 _ ρ1 => (∃ bs : List Bool, d1 = .lst (bs.map D.bl)) ∧ te x ρ1 fun d2 _ ρ2 => ∃ (bs : List Bool) (b : Bool), d1 = .lst (bs.map D.bl) ∧ d2 = .bl b ∧ Q (.int (bs.count b : Nat)) .p ρ2
def rCntB : V → List V → Hp → VK → Prop := fun x xs H Q => ∃ (p : Addr) (bs : List Bool) (b : Bool), x = .ref p ∧ xs = [.bl b] ∧ H p = some (.lst (bs.map V.bl)) ∧ Q (.int (bs.count b : Nat)) H
def boolIs (b : Bool) (v : Value) : Bool := match v with
  | .bool c => c == b
  | _ => false
theorem bools_of {bs : List Bool} {us : List Value} (r : Vals (bs.map V.bl) us) : us = bs.map Value.bool := by
  induction bs generalizing us with
  | nil => cases r; rfl
  | cons b bs ih =>
    cases r with
    | cons h r =>
      cases h
      rw [ih r]; rfl
theorem count_boolIs (b : Bool) : ∀ bs : List Bool, (bs.map Value.bool).countP (boolIs b) = bs.count b
  | [] => rfl
  | c :: bs => by
    rw [List.map_cons, List.countP_cons, List.count_cons, count_boolIs b bs]; rfl
theorem mt_countB {X : Cx} : MtR X "list.count" rCntB := by
  intro pins s σ H x xs v us Q I rx rxs h
  obtain ⟨p, bs, b, rfl, rfl, hH, q⟩ := h
  cases rx
  obtain ⟨u, rfl, ru⟩ := rxs.one
  cases ru
  obtain ⟨z, its, n, r, hl, e⟩ := I.lstM hH
  have ei := bools_of r
  subst ei
  refine call_meets PySem.F.slot_list_count ⟨_, e, rfl⟩ PySem.F.entry_list_count (PySem.F.args_list_count_2 _ _)
    (SeqAt.list_countAt p (bs.map Value.bool).toArray n none #[] (.bool b) (boolIs b)) ⟨e, fun y hy => ?_, ?_⟩
  · obtain ⟨c, _, rfl⟩ := List.mem_map.mp (show y ∈ bs.map Value.bool by simpa using hy)
    exact SeqAt.EqAt.bool_bool c b
  · refine ⟨.int (bs.count b : Nat), H, I.tok _, ⟨s.toks, ?_⟩, q⟩
    show Value.int (((bs.map Value.bool).countP (boolIs b) : Nat) : Int) s.toks = Value.int ((bs.count b : Nat) : Int) s.toks
    rw [count_boolIs]
theorem Dens.bls {T : Tx} {c : Dx T} {B : Hp} {vs : List V} {bs : List Bool} (r : Dens c B vs (bs.map D.bl)) : vs = bs.map V.bl := by
  induction bs generalizing vs with
  | nil => cases r; rfl
  | cons b bs ih =>
    cases r with
    | cons h r =>
      cases h
      rw [ih r]; rfl
section
variable {X : Cx} {T : Tx} {W : WX} {o e : Expr} {ro re : RE} {apos pos : Pos}
theorem le_cntB : ∀ σ H Q', liftE T W (dCntB ro re) σ H Q' → tBM T.K "list" rCntB (liftE T W ro) (tCons (liftE T W re) tNil) σ H Q' := by
  rintro σ H Q' ⟨c, B, ρ, x, Q, R, XX, h, q⟩
  refine ⟨c, B, ρ, x, _, R, XX, h, fun d g ρ1 v B1 H1 h1 e1 k1 R1 t1 => ?_⟩
  obtain ⟨⟨bs, rfl⟩, h1⟩ := h1
  obtain ⟨a, xs, rfl, ha, r⟩ := (t1.tm R1).list R1.ex
  refine ⟨.inl ⟨rfl, xs, .inl (.inl ha)⟩, c, B1, ρ1, x, _, R1, XX.up e1, h1, fun d2 g2 ρ2 v2 B2 H2 h2 e2 k2 R2 t2 => ?_⟩
  obtain ⟨bs', b, eb, rfl, hq⟩ := h2
  have e3 := (t2.tm R2).bl_
  subst e3
  obtain ⟨a', xs', ea, ha', r'⟩ := ((t1.tm R1).mono e2 k2).list R2.ex
  cases ea
  have r' : Dens c B2 xs' (bs'.map D.bl) := by injection eb with eb; rw [← eb]; exact r'
  have ex := r'.bls
  subst ex
  exact ⟨_, bs', b, rfl, rfl, ha', q _ _ _ _ B2 H2 hq (e1.trans e2) (k1.trans k2) R2 (.p (.int _))⟩
theorem qe_cntB (ho : PE X o (liftE T W ro)) (he : PE X e (liftE T W re)) (hK : X.K = T.K := by rfl) (hs : starEach [e] X.env = (false, eval e X.env) :: starEach [] X.env := by rfl) (hbase : attributeBase o "count" X.env (eval o X.env) = eval o X.env := by rfl)
    (hfew : ((backTo pos (starEach [e] X.env)).all (fun x => !x.1) && (backToKw pos (keywordEach [] X.env)).all (fun x => x.1.isSome) && decide ([e].length + ([] : List Keyword).length + (if ([] : List Keyword).isEmpty then 0 else 1) < 30)) = true := by rfl) (hline : (apos.endLine == pos.line) = true := by rfl)
    (hpl : (backTo pos (starEach [] X.env)).any (·.1) = false := by rfl) : PE X (.Call (.Attribute o "count" apos) [e] [] pos) (liftE T W (dCntB ro re)) :=
  (pe_bm PySem.F.plainAttrs_list PySem.F.slot_list_count PySem.F.type_list_count mt_countB ho (pa_cons he pa_nil hs) hbase hfew hline hs hpl).imp (by rw [hK]; exact le_cntB)
end

abbrev SpX := Nat → D → (D → Prop) → Prop
def SortP (T : Tx) (sp : SpX) (cls : Value) (dd : Option Addr) (H : Hp) (Q : VK) : Prop := ∃ (n : Nat) (p : Addr) (v : V) (d : D) (c : Dx T) (B : Hp) (Qd : D → Prop), cls = .ref (T.cl n) ∧ dd = some p ∧ c.H0 = H ∧ Hold c B H ∧ B p = some (.xd [(T.xf n, v)]) ∧ Den c B v d ∧ sp n d Qd ∧
  ∀ (x y : Str) (o : Bool) (v' : V) (B' H' : Hp), Qd (.lst [.str x, .str y]) → Ex B B' → ExP c H H' → Hold c B' H' → RetOk c B' H' v' (.lst [.str x, .str y]) o → Q v' H'
structure FnX (P : Program) (w : World) (K : Frag) (mg : Str → Option Value) (base : Heap) (k : Nat) (f : Addr) (T : Tx) (sp : SpX) : Prop where
  run : ∀ (A : Around) (outer : List PySem.Env) (s : Shared) (H : Hp) (Q : VK) (a : Addr) (oe : Obj) (cls : Value) (dd : Option Addr), RoomH k A → A.guards = some [] → PinOk outer H s (a, oe) → Zc cls dd oe → (∃ vs, oe.data = .fields vs) → Env0 P w K mg base A outer s H → SortP T sp cls dd H Q →
    codeAny (model P w) A (.call (.ref f) ⟨[.ref a], []⟩) (CR (L2.CX P w) outer P w H s Q fun _ _ _ => False) s
def kdX (Qd : D → Prop) : Kd := { nx := fun _ => False, rt := fun d _ _ => (∃ x y : Str, d = .lst [.str x, .str y]) ∧ Qd d, ex := fun _ _ => False }
end Dc
set_option maxHeartbeats 2000000
namespace Dc
open PySem L2 PyProof.Rows PySem.W L2H

theorem fly_grow {base h h' : Heap} {l : List PySem.Env} {e : Addr} {Z : PySem.Obj → Prop} (x : HandSPX.FlyingZ base l e Z h) (k : ∀ b o, h.get? b = some o → h'.get? b = some o) : HandSPX.FlyingZ base l e Z h' := by
  obtain ⟨f1, f2, f3, oe, vs, T, oT, ts, r1, r2, r3, r4, r5, r6, r7, r8⟩ := x
  exact ⟨fun b o z => k b o (f1 b o z), f2, f3.of_keeps fun b o z _ => ⟨o, k b o z, rfl⟩, oe, vs, T, oT, ts, k _ _ r1, r2, r3, r4, r5, r6, k _ _ r7, r8⟩
theorem slots_grow {h h' : Heap} (k : ∀ b o, h.get? b = some o → h'.get? b = some o) : h.UpToSlots h' := fun b o z _ => ⟨o.slots, k b o z⟩
def w3 (K : Frag) (c1 c2 c3 : Value) (i : Nat) (ts : Addr → Value → Option Addr → TS) (D : Ends) : WX := fun cls d σ H =>
  exmAny K cls [c1, c2, c3] = some true ∧ ∀ a, H a = none → ts a cls d { nx := fun σ' H' => D.nx (σ'.set i none) H', rt := D.rt, bk := fun σ' H' => D.bk (σ'.set i none) H', ct := fun σ' H' => D.ct (σ'.set i none) H' } (σ.set i (some (.ref a))) H
section
variable {X : Cx} {x1 x2 x3 y : Str} {c1 c2 c3 : Value} {i kk : Nat} {body suite : List Stmt} {b0 : Stmt} {p1 p2 p3 tp pos pos' : Pos} {tb : WX → TS} {ts : Addr → Value → Option Addr → TS}
theorem ps_try3 (stk : X.stack = X.env :: X.outer) (frm : X.env.frame = some X.env.locals) (nd : X.N.Nodup) (hi : X.N[i]? = some y) (loc : X.env.kindOf y = some .local) (n1 : Names X x1 c1) (n2 : Names X x2 c2) (n3 : Names X x3 c3)
    (hb : ∀ (W : WX) (pn : List (Addr × Obj)) (xe : Value → Shared → Prop), Takes (X.tr pn xe) W → PassesOwn (model X.prog X.w) X.A X.env xe → PSs (X.tr pn xe) body (tb W))
    (hsu : ∀ (a : Addr) (oe : Obj) (cls : Value) (d : Option Addr) (pn : List (Addr × Obj)), Zc cls d oe → (∃ vs, oe.data = .fields vs) → PSs (X.suite a ((a, oe) :: pn)) (b0 :: suite) (ts a cls d))
    (e1 : starEach [.Name x1 p1, .Name x2 p2, .Name x3 p3] X.env = (false, eval (.Name x1 p1) X.env) :: starEach [.Name x2 p2, .Name x3 p3] X.env := by rfl)
    (e2 : starEach [.Name x2 p2, .Name x3 p3] X.env = (false, eval (.Name x2 p2) X.env) :: starEach [.Name x3 p3] X.env := by rfl)
    (e3 : starEach [.Name x3 p3] X.env = (false, eval (.Name x3 p3) X.env) :: starEach [] X.env := by rfl) :
    PS X (.Try body [.ExceptHandler (some (.Tuple [.Name x1 p1, .Name x2 p2, .Name x3 p3] kk tp)) (some y) (b0 :: suite) pos'] [] [] pos) (fun D σ H => tb (w3 X.K c1 c2 c3 i ts D) D σ H) := by
  refine ⟨fun pins s σ H D I h => ?_⟩
  have ok := I.ok
  have frames : X.A.frames = some (X.env :: X.outer) := by rw [ok.frames, stk]
  let hd : ExceptHandler := .ExceptHandler (some (.Tuple [.Name x1 p1, .Name x2 p2, .Name x3 p3] kk tp)) (some y) (b0 :: suite) pos'
  let xe0 : Value → Shared → Prop := fun e t1 => wpAny (model X.prog X.w) X.A (noteFrame e X.env) (fun _ t2 => wpAny (model X.prog X.w) X.A (setFlight e none) (fun _ t3 =>
    wpAny (model X.prog X.w) X.A (handleBy e X.env [hd]) (SP X pins D) X.xe t3) X.xe t2) X.xe t1
  refine wpAny_Try_except ?_
  have tk0 : Takes (X.tr (X.pn ++ pins) xe0) (w3 X.K c1 c2 c3 i ts D) := fun u s' xx => by
    obtain ⟨a, B, sI, pins', σ', H', cls, d, rfl, J', nb, up, sky, na, os, ag, hm, hw⟩ := xx
    have J : Inv X pins σ' H' sI := J'.ofTry ok
    have sky' : Sky B (X.env :: X.outer) a (Zc cls d) X.env.locals s'.heap := by rw [← stk]; exact sky
    show wpAny (model X.prog X.w) X.A (noteFrame (.ref a) X.env) _ _ _
    refine Sky.land Zc.steady frames frm sky' fun g3 fl3 up3 => ?_
    have J3 : Inv X pins σ' H' { s' with heap := g3 } := J.landed nb fl3.1 (up.trans up3) os ag
    obtain ⟨o3, vs3, ho3, hz3, hd3⟩ := fl3.there
    have nfr : a ∉ frs (X.env :: X.outer) := fun z => by
      obtain ⟨_, o', eo, nf⟩ := fl3.2.2.1.mem z
      rw [ho3] at eo
      cases eo
      exact nf _ hd3
    have nL : a ≠ X.env.locals := fun z => nfr (List.mem_filterMap.mpr ⟨X.env, List.mem_cons_self, by rw [frm, z]⟩)
    have nF : a ∉ X.fs := fun z => by
      obtain ⟨en, he, q⟩ := List.mem_filterMap.mp z
      exact nfr (List.mem_filterMap.mpr ⟨en, List.mem_cons_of_mem _ he, q⟩)
    have S3 := J3.suite ho3 hd3 na nL nF
    refine wpAny_handleBy_cons (codeAny_handlers_test ?_) (by intro q; cases q)
    have name : ∀ {x : Str} {c : Value} {p : Pos} {Q : Value → Shared → Prop} {E : Value → Shared → Prop}, Names X x c → Q c { s' with heap := g3 } → wpAny (model X.prog X.w) (X.A.mark (some (.ref a))) (eval (.Name x p) X.env) Q E { s' with heap := g3 } := fun {x c p Q E} nm q => by
      obtain ⟨hg, hdb, hm | ⟨hm, hv, hnn⟩⟩ := nm
      · exact ld_glob (X := X.suite a ((a, o3) :: (X.pn ++ pins))) S3 hg hm q hdb
      · exact ld_blt (X := X.suite a ((a, o3) :: (X.pn ++ pins))) S3 hg hm hv q hnn hdb
    refine wpAny_Tuple ?_
    refine wpAny_items_cons (name n1 ?_) e1
    refine wpAny_items_cons (name n2 ?_) e2
    refine wpAny_items_cons (name n3 ?_) e3
    refine wpAny_items_nil ⟨by size_fits, ?_⟩
    -- the tuple of classes is laid
    have kp : ∀ b o, g3.get? b = some o → (g3.push { cls := .type "tuple", data := .seq [c1, c2, c3].toArray }).get? b = some o := fun b o z => Heap.get?_push_of_some _ z
    have LT : PySem.W.Looks (model X.prog X.w) g3 (typeOf (.ref a)) cls := fun A Q E t k q => wpAny_typeOf_ref (k _ _ ho3) (by rw [hz3.1]; exact q)
    have fl5 := fly_grow fl3 kp
    refine (exm_tup3 (M := model X.prog X.w) (J3.kIn.keeps kp) (LT.keeps kp) (Heap.get?_push_size g3 rfl) hm).here ?_
    refine codeAny_handlers_suite_as ?_
    refine HandSPX.lands_againZ fl5 fun g4 fl4 up4 => ?_
    have J4 : Inv X pins σ' H' { s' with heap := g4 } := J.landed nb fl4.1 (((up.trans up3).trans (slots_grow kp)).trans up4) os ag
    obtain ⟨o4, vs4, ho4, hz4, hd4⟩ := fl4.there
    have S4 := J4.suite ho4 hd4 na nL nF
    refine store_ok (X := X.suite a ((a, o4) :: (X.pn ++ pins))) (v := .ref a) S4 nd hi (.inl loc) rfl (fun s5 S5 => ?_) (.inr loc)
    refine wpAny_mono ((hsu a o4 cls d (X.pn ++ pins) hz4 ⟨_, hd4⟩).run [] s5 _ H' _ S5 (hw a na)) (fun fl s6 r6 => ?_) (fun _ _ z => False.elim z)
    have out : ∀ {σ6 : L2.St} {H6 : Hp} {Q : Shared → Prop}, Inv (X.suite a ((a, o4) :: (X.pn ++ pins))) [] σ6 H6 s6 → (∀ s7, Inv X pins (σ6.set i none) H6 s7 → Q s7) →
        wpAny (model X.prog X.w) X.A (do bindName X.env y .none; unbindBehindTheSuite X.env y pos') (fun _ s7 => Q s7) X.xe s6 := fun S6 hq => gone_ok (S6.unsuite ok) nd hi loc hq
    rcases fl with _ | _ | _ | u
    all_goals first
      | (obtain ⟨v6, σ6, H6, S6, rv, q6⟩ := r6
         exact out S6 fun s7 J7 => ⟨_, _, _, J7, rv, q6⟩)
      | (obtain ⟨σ6, H6, S6, q6⟩ := r6
         exact out S6 fun s7 J7 => ⟨_, _, J7, q6⟩)
  refine wpAny_mono ((hb _ (X.pn ++ pins) xe0 tk0 PassesOwn.looking).run [] s σ H D (I.toTry _) h) (fun fl s1 r => ?_) fun e s1 r => r
  rcases fl with _ | _ | _ | u
  · obtain ⟨σ', H', J, q⟩ := r
    exact wpAny_execs_nil ⟨σ', H', J.ofTry ok, q⟩
  · obtain ⟨σ', H', J, q⟩ := r
    exact ⟨σ', H', J.ofTry ok, q⟩
  · obtain ⟨σ', H', J, q⟩ := r
    exact ⟨σ', H', J.ofTry ok, q⟩
  · obtain ⟨v, σ', H', J, rv, q⟩ := r
    exact ⟨v, σ', H', J.ofTry ok, rv, q⟩
end
end Dc
set_option maxHeartbeats 2000000
namespace Dc
open PySem L2 PyProof.Rows PySem.W L2H LamX

section
variable {X : Cx} {T : Tx} {k i : Nat} {fs a : Addr} {oe : PySem.Obj} {cls : Value} {dd : Option Addr} {pn : List (Addr × PySem.Obj)} {sp : SpX} {xf y : Str} {p q pos pos2 : Pos}
end

section
variable {X : Cx} {T : Tx} {k j kk : Nat} {fs g : Addr} {cdg c1 c2 c3 : Value} {sp : SpX} {sg : Scope} {x a gt y q xf x1 x2 x3 : Str} {p1 p2 p3 p4 q1 q2 q3 q4 r1 r2 r3 r4 r5 r6 t1 t2 t3 t4 : Pos}
end
end Dc
set_option maxHeartbeats 2000000
namespace Dc
open PySem L2 PyProof.Rows PySem.W L2H LamX

def Grown (H : Hp) (P : Addr) (q : Str) (H1 : Hp) : Prop := TabS H1 P q ∧ (H1 = H ∨ ∃ (ps more : Array Value) (c' : Addr), H P = some (.tbl ps) ∧ H c' = none ∧ H1 = upd (upd H P (.tbl (ps ++ more))) c' (CodeO c' q))
section
variable {X : Cx} {pins : List (Addr × PySem.Obj)} {σ : L2.St} {H HZ : Hp} {s s1 : Shared}
theorem lam_new {c P : Addr} {params : Arguments} {body : Expr} {scope : Scope} {pos : Pos} {E Q : Value → Shared → Prop} (I : Inv X pins σ H s) (TB : TabB X.base X.mg c P) (code : X.env.code = .ref c) (tab : TabS H P (X.env.qual ++ "<lambda>"))
    (noD : defaultsOf params X.env = ([], [])) (has : ∀ y ∈ scope.names, y.2 = .free → ∃ c, X.env.cells.lookup y.1 = some c)
    (h : ∀ (f c' : Addr) (pm ct : Value) (H1 : Hp) (s' : Shared), Inv X pins σ H1 s' → Grown H P (X.env.qual ++ "<lambda>") H1 → s'.heap.get? f = some (kla_obj "<lambda>" (X.env.qual ++ "<lambda>") params body scope (cloFrom X.env.cells scope.names []) pm c' ct) →
      H1 f = none → f ∉ frs X.stack → H1 c' = some (CodeO c' (X.env.qual ++ "<lambda>")) → Q (.ref f) s') :
    wpAny (model X.prog X.w) X.A (eval (.Lambda params body scope pos) X.env) Q E s := by
  obtain ⟨ps, hP, tri, among⟩ := id tab
  have atP : s.heap.get? P = some { cls := .none, data := .fields ps } := I.hok P _ hP
  have bm := TB.bm.keeps I.bk
  have noFr : ∀ f, s.heap.objs.size ≤ f → f ∉ frs X.stack := fun f hf z => (List.mem_cons.mp (I.stkSub _ z)).elim (fun e => by
    have l := I.lt
    rw [← e] at l
    exact Nat.lt_irrefl _ (Nat.lt_of_lt_of_le l hf)) (I.nofs hf)
  refine kla_eval noD ?_
  cases hit : codeAmong pos ps.toList with
  | some cv =>
    obtain ⟨c', rfl, hc'⟩ := among pos cv hit
    refine kla_makeFunctionHit (mg := X.mg) (c := c) (P := P) (ps := ps) (closure_ok has) I.ok.glob (I.mod.glob.keeps I.bk) code (TB.code.keeps I.bk) atP tri hit bm fun ct g' tk keep hsz => ?_
    exact h g'.objs.size c' _ ct H _ (I.kept fun b o z => Heap.get?_push_of_some _ (keep b o z)) ⟨tab, .inl rfl⟩ (Heap.get?_push_size _ rfl) (I.hok.fresh hsz) (noFr _ hsz) hc'
  | none =>
    refine kla_makeFunction (mg := X.mg) (c := c) (P := P) (ps := ps) (closure_ok has) I.ok.glob (I.mod.glob.keeps I.bk) code (TB.code.keeps I.bk) atP tri hit TB.gP bm fun c' ct g' tk keep new lt rec tab' => ?_
    obtain ⟨c2, oc, vs, t, e2, ho, hd, hv⟩ := rec
    cases e2
    have big : s.heap.objs.size ≤ g'.objs.size := by omega
    have fresh : H c' = none := I.hok.fresh new
    have I1 := inv_table (t' := tk) (more := #[rawInt pos.line, rawInt pos.col, .ref c']) (h' := g'.push (kla_obj "<lambda>" (X.env.qual ++ "<lambda>") params body scope (cloFrom X.env.cells scope.names []) ((X.mg "__name__").getD .none) c' ct)) I hP
      (fun b o hb z => Heap.get?_push_of_some _ (keep b o hb z)) (Heap.get?_push_of_some _ tab') new ⟨oc, vs, t, Heap.get?_push_of_some _ ho, hd, hv⟩
    have stay : ∀ c0, H c0 = some (CodeO c0 (X.env.qual ++ "<lambda>")) → (upd (upd H P (.tbl (ps ++ #[rawInt pos.line, rawInt pos.col, .ref c']))) c' (CodeO c' (X.env.qual ++ "<lambda>"))) c0 = some (CodeO c0 (X.env.qual ++ "<lambda>")) := fun c0 z => by
      rw [upd_ne (ne_of_none z fresh), upd_ne (fun w => codeO_ne ps (Option.some.inj (z.symm.trans (by rw [w]; exact hP))))]
      exact z
    have eL : (ps ++ #[rawInt pos.line, rawInt pos.col, .ref c']).toList = ps.toList ++ [rawInt pos.line, rawInt pos.col, .ref c'] := by simp
    refine h g'.objs.size c' _ ct _ _ I1 ⟨⟨_, by rw [upd_ne (ne_of_none hP fresh), upd_same], by rw [eL]; exact TriplesOk_snoc _ _ _ _ tri, fun p' cv hcv => ?_⟩, .inr ⟨ps, _, c', hP, fresh, rfl⟩⟩ (Heap.get?_push_size _ rfl) ?_ (noFr _ big) upd_same
    · rw [eL] at hcv
      rcases among_app _ tri hcv with z | z
      · obtain ⟨c0, w1, w2⟩ := among p' cv z
        exact ⟨c0, w1, stay c0 w2⟩
      · exact ⟨c', z, upd_same⟩
    · have lP := Heap.lt_size atP
      have n1 : g'.objs.size ≠ c' := Nat.ne_of_gt lt
      have n2 : g'.objs.size ≠ P := Nat.ne_of_gt (Nat.lt_of_lt_of_le lP big)
      rw [upd_ne n1, upd_ne n2]
      exact I.hok.fresh big
theorem lam_call {Ng : List Str} {qg a : Str} {sg : Scope} {g f c' : Addr} {cdg pm ct : Value} {params : Arguments} {body : Expr} {scope : Scope} {k i : Nat} {pn : List (Addr × PySem.Obj)} {xe : Value → Shared → Prop} {W : WX} {E : XK} {tb : TE} {p1 p2 : Pos}
    (I : Inv X pins σ H s) (L : LamS X.env.scope scope) (hf : s.heap.get? f = some (kla_obj "<lambda>" (X.env.qual ++ "<lambda>") params body scope (cloFrom X.env.cells scope.names []) pm c' ct)) (nf : H f = none) (nfr : f ∉ frs X.stack)
    (bind : bindArgs (kla_fn "<lambda>" (X.env.qual ++ "<lambda>") params body scope (cloFrom X.env.cells scope.names []) pm (.ref c') ct) ⟨[], []⟩ = pure [])
    (tk : Takes ((cxOf C8.CX0 X.prog X.w X.K X.mg X.base Ng qg sg g cdg X.A X.stack s H C8.E0).tr pn xe) W) (hW : ∀ cls d σ' H', E cls d H' → W cls d σ' H') (hr : Room (k + 1) (X.A.deeper (envOfC qg sg s.heap.objs.size g cdg))) (hgu : X.A.guards = some [])
    (hbody : ∀ (A : Around) (outer : List PySem.Env) (s : Shared) (H : Hp), Room k (A.deeper (lamEnv X scope s.heap.objs.size f c')) → A.guards = some [] → PE (lamCx X A outer s H E scope f c') body tb)
    (hN : Ng[i]? = some a) (hv : Vis sg a) (hd : (a == ("__debug__" : Str)) = false := by decide) (hcd : (a == ("__classdict__" : Str)) = false := by decide) :
    PE ((cxOf C8.CX0 X.prog X.w X.K X.mg X.base Ng qg sg g cdg X.A X.stack s H C8.E0).tr pn xe) (.Call (.Name a p1) [] [] p2) (fun σZ HZ Q => σZ[i]? = some (some (.ref f)) ∧ HZ c' = some (CodeO c' (X.env.qual ++ "<lambda>")) ∧ tb σ HZ Q) := by
  refine ⟨fun pz sz σz Hz Q Iz ⟨at_, hc, ht⟩ => ?_⟩
  refine wpAny_Call_Name_kw (thn ((pe_var (pos := p1) (i := i) hN hv hd hcd).run pz sz σz Hz (fun v H1 => v = .ref f ∧ H1 = Hz) Iz ⟨.ref f, at_, rfl, rfl⟩) fun u s1 ⟨v, H1, I1, ru, e1, e2⟩ => ?_)
  subst e1 e2
  obtain rfl : u = Value.ref f := ru
  have of1 : s1.heap.get? f = some (kla_obj "<lambda>" (X.env.qual ++ "<lambda>") params body scope (cloFrom X.env.cells scope.names []) pm c' ct) := I1.base.keep f _ hf nf nfr (fun z => nomatch (show f ∈ ([] : List Addr) from z))
  refine callWith_F0 ⟨_, _, _, _, of1⟩ ?_
  have un : Un (frs X.stack) [] H H1 s.heap s1.heap := I1.base
  obtain ⟨⟨oc, vs, t, hoc, hdc, hvc⟩, _, _⟩ := I1.hok c' _ hc
  let A1 : Around := X.A.deeper (envOfC qg sg s.heap.objs.size g cdg)
  let out1 : List PySem.Env := envOfC qg sg s.heap.objs.size g cdg :: X.stack
  have run : codeAny (model X.prog X.w) A1 (.call (.ref f) ⟨[], []⟩) (CR (L2.CX X.prog X.w) out1 X.prog X.w H1 s1 Q E) s1 := by
    refine kla_callFunE hr.depth of1 rfl L.co L.gen rfl ⟨c', oc, vs, t, rfl, hoc, hdc, hvc⟩ ?_
    rw [bind]
    refine wpAny_pure (wpAny_newFunctionEnv (fun y hy => (L.own y hy).2) (fun y hy => absurd hy (by simp)) (fun g1 hns hsb => ⟨I1.nolimit.fresh _ hsb, ?_⟩) L.kind)
    show codeAny _ _ (.expr body (lamEnv X scope s1.heap.objs.size f c')) _ _
    have keep : ∀ b o, s1.heap.get? b = some o → g1.get? b = some o := fun b o z => hsb.extBut b o (Nat.ne_of_lt (Heap.lt_size z)) (Heap.get?_push_of_some _ z)
    have J : Inv (lamCx X A1 out1 s1 H1 E scope f c') [] σ H1 { s1 with heap := g1, toks := s1.toks + ([] : List (Str × Value)).length } := lam_start2 I L I1.env0 hr.hd un hns keep
    refine kla_codeExpr (wpAny_mono ((hbody A1 out1 s1 H1 (hr.deeper _) hgu).run [] _ _ H1 Q J ht) (fun v s' z => ?_) fun e s' z => z)
    obtain ⟨w', H', J', rv, z⟩ := z
    exact ⟨w', H', J'.os, J'.bare, J'.base, J'.hok, rv, z⟩
  refine wpAny_call (codeAny_mono run fun r s' z => ?_)
  rcases r with e | (u | _ | _ | _)
  · exact passes_call tk hW pz σz H1 s1 e s' I1 z
  all_goals first | exact I1.after z | exact False.elim z
def tLamN (P : Addr) (q : Str) (TT : (XK → Hp → VK → Prop) → Hp → VK → Prop) (t : XK → TE) : TE := fun σ H Q => TabS H P q ∧ ∀ H1, Grown H P q H1 → TT (fun E H' Q' => t E σ H' Q') H1 Q
theorem pe_lamN {TT : (XK → Hp → VK → Prop) → Hp → VK → Prop} {x a : Str} {g c P : Addr} {k : Nat} {pg : Arguments} {bg : List Stmt} {sg : Scope} {dV kV doc pm cdv ct oc : Value} {an od : Option Addr} {osl : Array (Option Value)} {Ng : List Str} {params : Arguments} {body : Expr} {scope : Scope} {t : XK → TE} {p lpos pos : Pos}
    (hg : Gl X x) (hm : X.mg x = some (.ref g)) (hk : keepIn X.K (.ref g) = true) (lk : X.K.lookup g = some ⟨oc, od, .func (fnOf x x pg bg sg dV kV doc pm an cdv ct), osl⟩) (hcg : codeIn X.K cdv x = true) (hb : ∀ (s : Shared) (u : Value), BindsTo s (fnOf x x pg bg sg dV kV doc pm an cdv ct) ⟨[u], []⟩ [(a, u)])
    (Sg : FnScope Ng [a] sg) (hNg : Ng[0]? = some a) (hva : Vis sg a) (hG : GivesTo X Ng x sg g cdv bg a (X.env.qual ++ "<lambda>") TT) (TB : TabB X.base X.mg c P) (code : X.env.code = .ref c) (hr : Room (k + 2) X.A) (hgu : X.A.guards = some []) (L : LamS X.env.scope scope)
    (noD : defaultsOf params X.env = ([], [])) (bind : ∀ (q : Str) (cl : List (Str × Addr)) (pm cv ct : Value), bindArgs (kla_fn "<lambda>" q params body scope cl pm cv ct) ⟨[], []⟩ = pure [])
    (hbody : ∀ (A : Around) (outer : List PySem.Env) (s : Shared) (H : Hp) (E : XK) (f c' : Addr), Room k (A.deeper (lamEnv X scope s.heap.objs.size f c')) → A.guards = some [] → PE (lamCx X A outer s H E scope f c') body (t E))
    (hdb : (x == ("__debug__" : Str)) = false := by decide) (hd : (a == ("__debug__" : Str)) = false := by decide) (hcd : (a == ("__classdict__" : Str)) = false := by decide) :
    PE X (.Call (.Name x p) [.Lambda params body scope lpos] [] pos) (tLamN P (X.env.qual ++ "<lambda>") TT t) := by
  refine ⟨fun pins s σ H Q I ⟨tab, h⟩ => ?_⟩
  refine wpAny_Call_Name_kw (ld_glob I hg hm ?_ hdb)
  refine callWith_K (h₀ := X.base) I.ok.mod.kin hk ?_ (by rfl) (by rfl)
  show wpAny _ _ (spliced ((false, eval (.Lambda params body scope lpos) X.env) :: backTo pos (starEach [] X.env))) _ _ s
  refine Calls.spliced_cons (lam_new I TB code tab noD (L.has I.ok) fun f c' pm' ct' H1 s' I1 gr hf nf nfr hco => Calls.spliced_nil ⟨I1.kIn, ?_⟩)
  have run : codeAny (model X.prog X.w) X.A (.call (.ref g) ⟨[.ref f], []⟩) (CR C8.CX0 X.stack X.prog X.w H1 s' Q C8.E0) s' := by
    refine run_ofS (N := Ng) (ps := [a]) (us := [.ref f]) (vs := [.ref f]) lk hcg Sg hr I1.env0 (hb s' (.ref f)) (.cons rfl .nil) rfl fun hr' => ?_
    obtain ⟨t', ht', hq'⟩ := hG f c' s' H1 Q (fun E H' Q' => t E σ H' Q') (fun W pn xe E p1 p2 tk hW => lam_call (i := 0) I1 L hf nf nfr (bind _ _ _ _ _) tk hW hr' hgu (fun A outer s H r2 g2 => hbody A outer s H E f c' r2 g2) hNg hva hd hcd) hco (h H1 gr)
    exact ⟨t', ht'.nox, hq'⟩
  refine wpAny_call (codeAny_mono run fun r s2 z => ?_)
  rcases r with e | (u | _ | _ | _)
  · exact (show False from z).elim
  all_goals first | exact I1.after z | exact False.elim z
end
end Dc
set_option maxHeartbeats 2000000
namespace Dc
open PySem L2 PyProof.Rows PySem.W L2H LamX

def wipeO (ρ : Env) : Env := ρ.map fun s => match s with
  | .own _ => .no
  | s => s
theorem wipeO_get {ρ : Env} {i : Nat} {s : Sl} (h : (wipeO ρ)[i]? = some s) : (s = .no ∧ ∃ s', ρ[i]? = some s') ∨ (ρ[i]? = some s ∧ ∀ d, s ≠ .own d) := by
  unfold wipeO at h
  rw [List.getElem?_map] at h
  cases e : ρ[i]? with
  | none => rw [e] at h; cases h
  | some z =>
    rw [e] at h
    have h := Option.some.inj h
    cases z with
    | no => exact .inl ⟨h.symm, _, rfl⟩
    | sh d => subst h; exact .inr ⟨rfl, fun d z => by cases z⟩
    | own d => exact .inl ⟨h.symm, _, rfl⟩
section
variable {T : Tx} {c : Dx T} {σ : L2.St} {B H H1 : Hp} {ρ : Env} {P : Addr} {q : Str}
theorem Rel.inner (R : Rel c σ B H ρ) : Rel (callee c σ H ρ) σ B H (wipeO ρ) := by
  have ho := callee_hold R
  refine ⟨ho.ex, ho.pail, ExP.rfl', ho.fb, by rw [R.len]; simp [wipeO], fun i o s h1 h2 => ?_, fun i j a d e _ h2 => ?_⟩
  · rcases wipeO_get h2 with ⟨rfl, _⟩ | ⟨h2, no⟩
    · exact .no
    · have z := R.sl i o s h1 h2
      cases z with
      | no => exact .no
      | sh z => exact .sh (Den.to (c := c) (c' := callee c σ H ρ) rfl z)
      | own _ _ => exact (no _ rfl).elim
  · rcases wipeO_get h2 with ⟨z, _⟩ | ⟨_, no⟩
    · cases z
    · exact (no _ rfl).elim
theorem Rel.grown (R : Rel c σ B H ρ) (g : Grown H P q H1) (hm : (P, q) ∈ T.tb) (hu : ∀ p ∈ T.tb, p.1 = P → p.2 = q) : Rel c σ B H1 ρ ∧ ExP c H H1 := by
  obtain ⟨tab, rfl | ⟨ps, more, c', hP, fr, rfl⟩⟩ := g
  · exact ⟨R, ExP.rfl'⟩
  have wP : c.wild P := .inr (List.mem_map.mpr ⟨_, hm, rfl⟩)
  have nPc : P ≠ c' := ne_of_none hP fr
  have at_ : ∀ b o, b ≠ P → H b = some o → upd (upd H P (.tbl (ps ++ more))) c' (CodeO c' q) b = some o := fun b o n h => by
    rw [upd_ne (ne_of_none h fr), upd_ne n]; exact h
  have kp : ExP c H (upd (upd H P (.tbl (ps ++ more))) c' (CodeO c' q)) := fun b o n h => at_ b o (fun z => n (z ▸ wP)) h
  have exB : Ex B (upd (upd H P (.tbl (ps ++ more))) c' (CodeO c' q)) := fun b o h => at_ b o (fun z => by
    rw [z, R.pail.nb P wP] at h; cases h) (R.ex b o h)
  refine ⟨R.grow Ex.rfl' exB kp ⟨fun a e => ?_, fun p hp => ?_, R.pail.nb, fun a xs e => ?_⟩ (fun a d i h1 h2 => (R.ownB h1 h2).1.b) (fun a h => (R.fb a h).2.1), kp⟩
  · obtain ⟨x, y, z, e1, r⟩ := R.pail.pa a e
    refine ⟨x, y, z, at_ _ _ (fun w => ?_) e1, r⟩
    rw [w, hP] at e1; cases e1
  · by_cases e : p.1 = P
    · have e2 := hu p hp e
      obtain ⟨p1, p2⟩ := p
      dsimp only at e e2
      subst e e2
      exact tab
    · obtain ⟨xs, e1, e2, e3⟩ := R.pail.tb p hp
      refine ⟨xs, at_ _ _ e e1, e2, fun pos cv hc => ?_⟩
      obtain ⟨u, r1, r2⟩ := e3 pos cv hc
      refine ⟨u, r1, at_ _ _ (fun w => ?_) r2⟩
      rw [w, hP] at r2
      exact codeO_ne _ (Option.some.inj r2).symm
  · by_cases ec : a = c'
    · rw [ec, upd_same] at e
      exact (codeO_ne _ (Option.some.inj e)).elim
    · rw [upd_ne ec] at e
      by_cases eP : a = P
      · rw [eP]; exact List.mem_map.mpr ⟨_, hm, rfl⟩
      · rw [upd_ne eP] at e
        exact R.pail.only a xs e
end
def dAns (fz : List Nat) (xm : Nat → Bool) (te : RE) (sp : SpX) : RE := fun _ ρ Q =>
  te (fun e _ => ∃ n d, e = .exc n [d] ∧ xm n = true ∧ sp n d fun d' => Q d' .p (frz fz ρ)) (wipeO (frz fz ρ)) fun d _ _ => Q (.lst [.str "back", d]) .f (frz fz ρ)
end Dc
set_option maxHeartbeats 2000000
namespace Dc
open PySem L2 PyProof.Rows PySem.W L2H

theorem RoomH.in1 {k : Nat} {A : Around} (r : RoomH (k + 1) A) : RoomH k A.in1 :=
  ⟨by have := r.dp; show A.depth + 3 * k + 5 < _; omega, by have := r.un; show A.units + 1 + 16 * k + 200 < _; omega⟩
structure FnV (P : Program) (w : World) (K : Frag) (mg : Str → Option Value) (base : Heap) (k : Nat) (f : Addr) (fd : FuncData) (ps : List Str) (sp : Sp) : Prop where
  run : ∀ (A : Around) (outer : List PySem.Env) (s : Shared) (H : Hp) (args : Args) (us : List Value) (vs : List V) (Q : VK) (E : XK) (p : Addr × PySem.Obj), RoomH k A → A.guards = some [] → PinOk outer H s p → Env0 P w K mg base A outer s H → BindsTo s fd args (ps.zip us) → Vals vs us → sp vs H Q E →
    codeAny (model P w) A (.call (.ref f) args) (CR (L2.CX P w) outer P w H s Q E) s
theorem fnV_ok {P : Program} {w : World} {T : Tx} {mg : Str → Option Value} {base : Heap} {k : Nat} {f : Addr} {fd : FuncData} {ps N : List Str} {x qual : Str} {st : Stmt} {sp : Sps} (t : RS) (F : Fun T.K x qual st f fd) (S : FnScope N ps (defScope st))
    (hder : ∀ (cdv : Value) (A : Around) (outer : List PySem.Env) (s : Shared) (H : Hp) (E : XK) (p : Addr × PySem.Obj), RoomH k (A.deeper (envOfC qual (defScope st) s.heap.objs.size f cdv)) → (A.deeper (envOfC qual (defScope st) s.heap.objs.size f cdv)).guards = some [] →
      PSs (cxH (L2.CX P w) P w T.K mg base N qual (defScope st) f cdv A outer s H E p) (defBody st) (liftS T (fun cls d _ H => E cls d H) t))
    (hpure : ∀ ds Qd xd, ds.length = ps.length → sp ds Qd xd → t (kdOf Qd xd) (startE N ds)) : FnV P w T.K mg base (k + 1) f fd ps (spD T ps.length sp) := by
  obtain ⟨oc, od, kV, doc, pm, an, cdv, ct, osl, rfl, lk, hcd⟩ := F.ex
  refine ⟨fun A outer s H args us vs Q E p hr hg pin e0 hb rv h => ?_⟩
  have len := h.len
  obtain ⟨c, B, ds, Qd, xd, h0, ho, r, hl, hs, q, qx⟩ := h
  have KX : T.K.In s.heap := e0.mod.kin.keeps fun b o z => (e0.bs b o z).1
  have lim : s.heap.NoLimit := e0.mod.nolimit.keeps fun b o z => (e0.bs b o z).1
  have kinds : ∀ z ∈ ps.zip us, (defScope st).names.lookup z.1 = some .local ∨ ((defScope st).names.lookup z.1 = some .cell ∧ ((cellsFrom (s.heap.objs.size + 1) (defScope st).names []).lookup z.1).isSome = true) := fun ⟨n, v⟩ hz =>
    (S.par n (List.of_mem_zip hz).1).elim .inl fun q1 => .inr ⟨q1, cellsFrom_some _ _ _ (.inl q1)⟩
  refine codeAny_call_function hr.depth (KX _ _ lk) rfl S.co S.gen rfl (codeRec_of KX hcd) (hb _ _ _ _ ?_)
  refine wpAny_newFunctionEnv_cells S.kind kinds fun env he s1 ic => ?_
  subst he
  refine ⟨lim.keeps ic.toInCall.keep, codeAny_func ?_⟩
  have I : Inv (cxH (L2.CX P w) P w T.K mg base N qual (defScope st) f cdv A outer s H E p) [] (L2.start N vs) H s1 := inv_startH S pin e0 len rv ic
  have R := rel_start (N := N) ho h0 r
  have want : liftS T (fun cls d _ H => E cls d H) t { nx := fun _ H' => Q .non H', rt := Q } (L2.start N vs) H := by
    refine ⟨c, B, _, kdOf Qd xd, R, fun d ρ' cls dd σ' B' H' hx e R' hd => qx d cls dd B' H' hx e (by rw [← h0]; exact R'.ent) R'.hold hd, hpure ds Qd xd hl hs, fun ρ' σ' B' H' hq e R' => ?_, fun d g ρ' v σ' B' H' hq e R' t => ?_, fun _ _ _ _ z => z.elim, fun _ _ _ _ z => z.elim⟩
    · exact q _ _ _ B' H' hq e (by rw [← h0]; exact R'.ent) R'.hold (.p .non)
    · refine q _ _ _ B' H' hq e (by rw [← h0]; exact R'.ent) R'.hold ?_
      cases t with
      | p n => exact .p n
      | f m o _ => exact .f m o
      | b h1 h2 => exact .f (R'.ownB h1 h2).1 (R'.ownB h1 h2).2
  refine wpAny_mono ((hder cdv A outer s H E p (hr.deeper _) hg).run [] s1 _ H _ I want) (fun fl s' z => ?_) fun e s' z => z
  cases fl with
  | ret u =>
    obtain ⟨v', σ', H', J, rv', z⟩ := z
    exact ⟨v', H', J.os, J.bare, J.base, J.hok, rv', z⟩
  | next =>
    obtain ⟨σ', H', J, z⟩ := z
    exact ⟨.non, H', J.os, J.bare, J.base, J.hok, rfl, z⟩
  | brk =>
    obtain ⟨_, _, _, z⟩ := z
    exact z.elim
  | cont =>
    obtain ⟨_, _, _, z⟩ := z
    exact z.elim
section
variable {X : Cx} {T : Tx} {k cn : Nat} {f : Addr} {fd : FuncData} {ps : List Str} {sp s2 : Sps} {f0 : FN} {p : Addr × PySem.Obj}
theorem co_reprV (F : FnV X.prog X.w X.K X.mg X.base k f fd ps (spD T 1 sp)) (hr : RoomH (k + 1) X.A) (hg : X.A.guards = some []) (hp : p ∈ X.pn) (hb : KB X.K fd ps 1 []) (hs : findIn X.K (.ref (T.cl cn)) "__repr__" = some (some (.ref f))) (hf : isFn X.K (.ref f) = true)
    (h : CallR X (.builtin "repr") (rOD T f0 s2)) : CallR X (.builtin "repr") (rOD T f0 (spOr cn (strS sp) s2)) := by
  refine co_cls h fun pins s σ H a dx vs Q I sl hq => ?_
  obtain ⟨_, od, _, J, _⟩ := SlX.slt_inst I sl
  obtain ⟨m, hF⟩ := I.fr
  have P1 := I.pin p (List.mem_append_left _ hp)
  have pin : PinOk X.stack H s p := ⟨P1.1, P1.2.1, fun z => (List.mem_cons.mp (I.stkSub p.1 z)).elim P1.2.2.1 P1.2.2.2.1, P1.2.2.2.2⟩
  have want : spD T 1 sp [.ref a] H (fun v H' => ∃ n, v = .str n ∧ Q (.str n) H') fun _ _ _ => False := by
    obtain ⟨c, B, ds, Qd, xd, h0, ho, r, hl, hs, q, qx⟩ := hq
    refine ⟨c, B, ds, _, _, h0, ho, r, hl, hs, fun d o v B' H' hq eb kp ho' ro => ?_, fun e cls dd B' H' z => z.elim⟩
    cases d <;> first | exact hq.elim | skip
    case str n => exact ⟨n, ro.str_, q _ _ _ B' H' hq eb kp ho' (.p (.str n))⟩
  refine repr_K (by have := hr.un; show X.A.units + 1 < cLine; omega) hF I.ok.mod.kin J hs hf ?_
  refine wpAny_call (codeAny_mono (F.run X.A.in1 X.stack s H ⟨[.ref a], []⟩ [.ref a] [.ref a] _ _ p (RoomH.in1 hr) hg pin I.env0.in1 (hb _ [.ref a] [] I.kIn rfl rfl) (.cons rfl .nil) want) fun r s' z => ?_)
  cases r with
  | error e =>
    obtain ⟨_, _, _, _, _, _, _, _, _, _, _, _, z⟩ := z
    exact z.elim
  | ok fl =>
    cases fl with
    | ret u =>
      obtain ⟨v, H', I', rv, n, rfl, q⟩ := I.after z
      obtain ⟨t, rfl⟩ := rv
      exact ⟨.str n, H', I', ⟨_, rfl⟩, q⟩
    | next => exact False.elim z
    | brk => exact False.elim z
    | cont => exact False.elim z
end
end Dc
set_option maxHeartbeats 2000000
namespace Dc
open PySem L2 PyProof.Rows PySem.W L2H LamX

theorem fnG_okC {P : Program} {w : World} {T : Tx} {mg : Str → Option Value} {base : Heap} {k : Nat} {f lc : Addr} {fd : FuncData} {ps N : List Str} {x qual : Str} {st : Stmt} {sp : Sps} (t : RS) (F : Fun T.K x qual st f fd) (hc : fd.code = .ref lc) (S : FnScope N ps (defScope st))
    (hder : ∀ (A : Around) (outer : List PySem.Env) (s : Shared) (H : Hp) (E : XK), Room k (A.deeper (envOfC qual (defScope st) s.heap.objs.size f (.ref lc))) → (A.deeper (envOfC qual (defScope st) s.heap.objs.size f (.ref lc))).guards = some [] →
      PSs (cxOf (L2.CX P w) P w T.K mg base N qual (defScope st) f (.ref lc) A outer s H E) (defBody st) (liftS T (fun cls d _ H => E cls d H) t))
    (hpure : ∀ ds Qd xd, ds.length = ps.length → sp ds Qd xd → t (kdOf Qd xd) (startE N ds)) : FnG P w T.K mg base (k + 1) f fd ps (spD T ps.length sp) := by
  obtain ⟨oc, od, kV, doc, pm, an, cdv, ct, osl, rfl, lk, hcd⟩ := F.ex
  obtain rfl : cdv = .ref lc := hc
  refine ⟨fun vs H Q E h => h.len, fun A outer s H args us vs Q E hr hg e0 hb r h => ?_⟩
  have len := h.len
  refine LamX.run_ofS lk hcd S hr e0 hb r len fun hr' => ⟨_, hder A outer s H E hr' hg, ?_⟩
  obtain ⟨c, B, ds, Qd, xd, h0, ho, r, hl, hs, q, qx⟩ := h
  have R := rel_start (N := N) ho h0 r
  refine ⟨c, B, _, kdOf Qd xd, R, fun d ρ' cls dd σ' B' H' hx e R' hd => qx d cls dd B' H' hx e (by rw [← h0]; exact R'.ent) R'.hold hd, hpure ds Qd xd hl hs, fun ρ' σ' B' H' hq e R' => ?_, fun d g ρ' v σ' B' H' hq e R' t => ?_, fun _ _ _ _ z => z.elim, fun _ _ _ _ z => z.elim⟩
  · exact q _ _ _ B' H' hq e (by rw [← h0]; exact R'.ent) R'.hold (.p .non)
  · refine q _ _ _ B' H' hq e (by rw [← h0]; exact R'.ent) R'.hold ?_
    cases t with
    | p n => exact .p n
    | f m o _ => exact .f m o
    | b h1 h2 => exact .f (R'.ownB h1 h2).1 (R'.ownB h1 h2).2

def xfL (n : Nat) : Str := if ([30, 31, 32, 33, 34, 35, 37, 41] : List Nat).contains n then "index" else "given"
abbrev obLow : Nat → Option Bool := fun n => if n < 20 then some false else none
def xmOf (l : List Nat) (n : Nat) : Bool := l.contains n
def xtOf (l : List (Nat × Bool)) (n : Nat) : Option Bool := l.lookup n
theorem xm_nil {P : Nat → Prop} : ∀ n, xmOf [] n = true → P n := fun n h => by cases h
theorem xm_cons {P : Nat → Prop} {a : Nat} {l : List Nat} (h : P a) (r : ∀ n, xmOf l n = true → P n) : ∀ n, xmOf (a :: l) n = true → P n := fun n e => by
  unfold xmOf at e r
  rw [List.contains_cons, Bool.or_eq_true] at e
  rcases e with e | e
  · rw [beq_iff_eq.mp e]; exact h
  · exact r n e
theorem xt_nil {P : Nat → Bool → Prop} : ∀ n b, xtOf [] n = some b → P n b := fun n b h => by cases h
theorem xt_cons {P : Nat → Bool → Prop} {a : Nat} {c : Bool} {l : List (Nat × Bool)} (h : P a c) (r : ∀ n b, xtOf l n = some b → P n b) : ∀ n b, xtOf ((a, c) :: l) n = some b → P n b := fun n b e => by
  unfold xtOf at e r
  rw [List.lookup_cons] at e
  split at e
  · rename_i q
    rw [beq_iff_eq.mp q, ← Option.some.inj e]; exact h
  · exact r n b e
theorem exm3 {K : Frag} {cls c1 c2 c3 : Value} {b1 b2 b3 : Bool} (h1 : exmOne K cls c1 = some b1) (h2 : exmOne K cls c2 = some b2) (h3 : exmOne K cls c3 = some b3) (h : (b1 || (b2 || (b3 || false))) = true) : exmAny K cls [c1, c2, c3] = some true := by
  unfold exmAny exmAny exmAny exmAny
  rw [h1, h2, h3, ← h]

section
variable {x : XQ} {ρ : Env} {Q : EQ} {te to : RE} {k : Kd}
@[simp] theorem oep {xt : Nat → Option Bool} : dIsX xt te x ρ Q = te x ρ fun d _ ρ1 => match d with
  | .exc n _ => ∃ b, xt n = some b ∧ Q (.bl b) .p ρ1
  | _ => False := rfl
@[simp] theorem oeq {ok : Nat → Bool} : dXfc ok te x ρ Q = te x ρ fun d _ ρ1 => match d with
  | .exc n [d0] => ok n = true ∧ Q d0 .p ρ1
  | _ => False := rfl
@[simp] theorem oer : dCntB to te x ρ Q = to x ρ fun d1 _ ρ1 => (∃ bs : List Bool, d1 = .lst (bs.map D.bl)) ∧ te x ρ1 fun d2 _ ρ2 => ∃ (bs : List Bool) (b : Bool), d1 = .lst (bs.map D.bl) ∧ d2 = .bl b ∧ Q (.int (bs.count b : Nat)) .p ρ2 := rfl
@[simp] theorem oes {n : Nat} {t : RA} : sRaise n t k ρ = t k.ex ρ fun ds ρ1 => ∃ d, ds = [d] ∧ k.ex (.exc n [d]) ρ1 := rfl
@[simp] theorem oet {fz : List Nat} {xm : Nat → Bool} {sp : SpX} : dAns fz xm te sp x ρ Q = te (fun e _ => ∃ n d, e = .exc n [d] ∧ xm n = true ∧ sp n d fun d' => Q d' .p (frz fz ρ)) (wipeO (frz fz ρ)) fun d _ _ => Q (.lst [.str "back", d]) .f (frz fz ρ) := rfl
@[simp] theorem oeu : wipeO [] = [] := rfl
@[simp] theorem oev {ρ : Env} : wipeO (.no :: ρ) = .no :: wipeO ρ := rfl
@[simp] theorem oew {ρ : Env} {d : D} : wipeO (.sh d :: ρ) = .sh d :: wipeO ρ := rfl
@[simp] theorem oex {ρ : Env} {d : D} : wipeO (.own d :: ρ) = .no :: wipeO ρ := rfl
@[simp] theorem oey {Qd : D → Prop} : (kdX Qd).nx ρ = False := rfl
@[simp] theorem oez {Qd : D → Prop} {d : D} {g : Tag} : (kdX Qd).rt d g ρ = ((∃ x y : Str, d = .lst [.str x, .str y]) ∧ Qd d) := rfl
@[simp] theorem ofa {Qd : D → Prop} {d : D} : (kdX Qd).ex d ρ = False := rfl
end
theorem walk_GM {l : OpenLaw} {n k : Nat} {q : Program} {loose : List Str} {XP : (Str → Option Value) → Heap → Prop} {d : DefRec} {K : Params → Frag} {as : List Addr} {e : ∀ P, as = (K P).map (·.1)} {ts : List Addr} {x : Str} (cs : List (Addr × Addr × Str))
    (hn : l.most = some n) (hn2 : n ≤ sizeLine) (hdf : d.params.defaults = []) (hr : Room k callerA) (hm : ∀ t ∈ cs, t.2.1 ∈ ts)
    (hT : ∀ (p : Params), ∀ t ∈ cs, codeHdIn (K p) t.1 t.2.1 = true ∧ (K p).lookup t.2.1 = none)
    (F : ∀ (w : World) (mg : Str → Option Value) (fa : Addr) (h : Heap), (K w.params).In h → h.Ns mainGlobals mg → mg d.name = some (.ref fa) →
      ∃ (T : Tx) (fd : FuncData), T.K = K w.params ∧ T.tb = cs.map (·.2) ∧ (∀ (s : Shared) (u : Value), BindsTo s fd ⟨[u], []⟩ [(x, u)]) ∧ ∀ base : Heap, T.K.In base → base.Ns mainGlobals mg → (∀ t ∈ cs, LamX.TabB base mg t.1 t.2.1) → FnG l.prog w T.K mg base k fa fd [x] (spD T 1 (lawS n))) :
    WalkO q loose XP (kmHook K as e ts).says l.row.toRowW d [] (fun f vs => PySem.call f vs) :=
  walk_G cs hn hn2 hdf hr (fun _ _ Y => ⟨km_in_of Y, fun t ht => km_tabs_of Y _ (hm t ht)⟩) hT F
end Dc
set_option maxHeartbeats 2000000
namespace Dc
open PySem L2 PyProof.Rows PySem.W L2H
def pk {α : Type} : List Nat → List α → List α
  | [], _ => []
  | j :: js, xs => match xs[j]? with
    | some x => x :: pk js xs
    | none => pk js xs
theorem Vals.pk {xs : List V} {us : List Value} (r : Vals xs us) : ∀ js : List Nat, Vals (Dc.pk js xs) (Dc.pk js us)
  | [] => .nil
  | j :: js => by
    unfold Dc.pk
    cases e : xs[j]? with
    | none => rw [Vals.none_of r e]; exact Vals.pk r js
    | some x =>
      obtain ⟨u, e2, rx⟩ := Vals.get r e
      rw [e2]
      exact .cons rx (Vals.pk r js)
theorem Dens.pk {T : Tx} {c : Dx T} {B : Hp} {xs : List V} {ds : List D} (r : Dens c B xs ds) : ∀ js : List Nat, Dens c B (Dc.pk js xs) (Dc.pk js ds)
  | [] => .nil
  | j :: js => by
    have at_ : ∀ {xs : List V} {ds : List D} (j : Nat), Dens c B xs ds → (xs[j]? = none ∧ ds[j]? = none) ∨ ∃ x d, xs[j]? = some x ∧ ds[j]? = some d ∧ Den c B x d := by
      intro xs ds j r
      induction j generalizing xs ds with
      | zero => cases r with
        | nil => exact .inl ⟨rfl, rfl⟩
        | cons h r => exact .inr ⟨_, _, rfl, rfl, h⟩
      | succ j ih => cases r with
        | nil => exact .inl ⟨rfl, rfl⟩
        | cons h r => exact ih r
    unfold Dc.pk
    rcases at_ j r with ⟨e1, e2⟩ | ⟨x, d, e1, e2, h⟩
    · rw [e1, e2]; exact Dens.pk r js
    · rw [e1, e2]; exact .cons h (Dens.pk r js)
def KBp (js : List Nat) (K : Frag) (fd : FuncData) (ps : List Str) (ks : List Str) : Prop := ∀ (s : Shared) (u : Value) (ws : List Value), K.In s.heap → ws.length = ks.length → BindsTo s fd ⟨[u], ks.zip ws⟩ (ps.zip (u :: pk js ws))
theorem kbp_of {js : List Nat} {K : Frag} {x qual : Str} {st : Stmt} {f : Addr} {fd : FuncData} {ps : List Str} {ks : List Str} (F : Fun K x qual st f fd)
    (h : ∀ (kV doc pm : Value) (an : Option Addr) (cdv ct : Value) (u : Value) (ws : List Value), ws.length = ks.length → bindArgs (fnOf x qual (defArgs st) (defBody st) (defScope st) .none kV doc pm an cdv ct) ⟨[u], ks.zip ws⟩ = pure (ps.zip (u :: pk js ws))) : KBp js K fd ps ks := by
  obtain ⟨oc, od, kV, doc, pm, an, cdv, ct, osl, rfl, lk, hcd⟩ := F.ex
  exact fun s u ws _ h2 => BindsTo.of_looks fun M => by rw [h kV doc pm an cdv ct u ws h2]; exact .now
def dMethP (js : List Nat) (cn n : Nat) (sp : Sps) (to : RE) (ta : RA) : RE := fun x ρ Q => to x ρ fun d _ ρ1 => asObj cn d fun os => ta x ρ1 fun es ρ2 => (pk js es).length + 1 = n ∧ sp (.obj cn os :: pk js es) (fun d o => Q d (tagO o) ρ2) (fun e => x e ρ2)
section
variable {js : List Nat} {X : Cx} {T : Tx} {k n cn : Nat} {f C : Addr} {fd : FuncData} {ps ks : List Str} {sp : Sps} {W : WX} {m : Str} {pos apos : Pos} {o : Expr} {kws : List Keyword} {to : RE} {ta : RA} {rs : RA} {t : TA} {tE : TE} {pl : Sem Bool}
@[simp] theorem ofb {x : XQ} {ρ : Env} {Q : EQ} : dMethP js cn n sp to rs x ρ Q = to x ρ fun d _ ρ1 => asObj cn d fun os => rs x ρ1 fun es ρ2 => (pk js es).length + 1 = n ∧ sp (.obj cn os :: pk js es) (fun d o => Q d (tagO o) ρ2) (fun e => x e ρ2) := rfl
@[simp] theorem ofc {α : Type} {xs : List α} : pk [] xs = [] := rfl
@[simp] theorem ofd {α : Type} {j : Nat} {js : List Nat} {xs : List α} : pk (j :: js) xs = match xs[j]? with
  | some x => x :: pk js xs
  | none => pk js xs := rfl
end
end Dc
set_option maxHeartbeats 2000000
namespace Dc
open PySem L2 PyProof.Rows PySem.W L2H
theorem fnG_none {P : Program} {w : World} {T : Tx} {mg : Str → Option Value} {base : Heap} {k n : Nat} {f : Addr} {fd : FuncData} {ps : List Str} : FnG P w T.K mg base k f fd ps (spD T n spNone) :=
  ⟨fun vs H Q E ⟨_, _, _, _, _, _, _, _, _, h, _⟩ => h.elim, fun A outer s H args us vs Q E _ _ _ _ _ ⟨_, _, _, _, _, _, _, _, _, h, _⟩ => h.elim⟩
end Dc
set_option maxHeartbeats 2000000
namespace Dc
open PySem L2 PyProof.Rows PySem.W L2H
def fEq0 : F2 := fun a b k => match a, b with
  | .tup xs, .tup [] => k (.bl xs.isEmpty) .p
  | _, _ => False
def fNe0 : F2 := fun a b k => match a, b with
  | .tup xs, .tup [] => k (.bl (!xs.isEmpty)) .p
  | _, _ => False
section
variable {X : Cx} {T : Tx}
theorem tup0 {c : Dx T} {B H : Hp} {pins : List (Addr × PySem.Obj)} {σ : L2.St} {s : Shared} {x y : V} {v u : Value} {xs : List D} (ex : Ex B H) (hK : X.K = T.K) (I : Inv X pins σ H s) (t1 : Tm c B H x (.tup xs)) (t2 : Tm c B H y (.tup [])) (rx : RelV x v) (ry : RelV y u) :
    ∃ a b i1, v = .ref a ∧ u = .ref b ∧ s.heap.IsTuple a i1 ∧ s.heap.IsTuple b #[] ∧ i1.size = xs.length := by
  obtain ⟨a, vs, rfl, h1, r1⟩ := t1.tuple ex
  obtain ⟨b, ws, rfl, h2, r2⟩ := t2.tuple ex
  cases r2
  obtain rfl : v = Value.ref a := rx
  obtain rfl : u = Value.ref b := ry
  obtain ⟨i1, v1, p1, _⟩ := I.tuple (show SqT X.K H a vs by rw [hK]; exact h1)
  obtain ⟨i2, v2, p2, _⟩ := I.tuple (show SqT X.K H b [] by rw [hK]; exact h2)
  cases v2
  exact ⟨a, b, i1.toArray, rfl, rfl, p1, p2, by rw [List.size_toArray, ← v1.length, r1.length]⟩
theorem opd_eq0 {n : Nat} (hr : Room n X.A) (hK : X.K = T.K := by rfl) : OpR X (compareOp .Eq) (r2D T fEq0) := by
  rintro pins s σ H x y v u Q I rx ry ⟨c, B, d1, d2, k, ex, t1, t2, h, q⟩
  unfold fEq0 at h
  split at h
  · rename_i xs
    obtain ⟨a, b, i1, rfl, rfl, p1, p2, e⟩ := tup0 ex hK I t1 t2 rx ry
    refine (SeqAt.RcAt.tuples (e := fun _ => true) p1 p2 (by have := hr.un; omega) fun j h1 h2 => absurd h2 (Nat.not_lt_zero j)) X.prog X.w _ _ ⟨.bl _, H, I, rfl, ?_⟩
    have e2 : ((List.range (min i1.size (#[] : Array Value).size)).all (fun _ => true) && i1.size == (#[] : Array Value).size) = xs.isEmpty := by
      rw [show (#[] : Array Value).size = 0 from rfl, Nat.min_zero, e]
      cases xs <;> rfl
    rw [e2]
    exact q _ _ _ _ h (Res.bl _)
  · exact h.elim
end
@[simp] theorem ofe {xs : List D} {k : D → Tag → Prop} : fEq0 (.tup xs) (.tup []) k = k (.bl xs.isEmpty) .p := rfl
@[simp] theorem ofg {xs : List D} {k : D → Tag → Prop} : fNe0 (.tup xs) (.tup []) k = k (.bl (!xs.isEmpty)) .p := rfl
end Dc
set_option maxHeartbeats 2000000
namespace Dc
open PySem PySem.Spec L2 PyProof.Rows PySem.W L2H
section
variable {prog : Program} {w : World} {A : Around} {E : Value → Shared → Prop} {s : Shared}
end
section
variable {X : Cx}
end
def dRevS (te : RE) : RE := fun x ρ Q => te x ρ fun d _ ρ1 => match d with
  | .lst ds => Q (.lst ds.reverse) .f ρ1
  | .tup ds => Q (.tup ds.reverse) .p ρ1
  | _ => False
section
variable {X : Cx} {T : Tx} {W : WX} {re : RE} {e : Expr}
@[simp] theorem ofh {x : XQ} {ρ : Env} {Q : EQ} : dRevS re x ρ Q = re x ρ fun d _ ρ1 => match d with
  | .lst ds => Q (.lst ds.reverse) .f ρ1
  | .tup ds => Q (.tup ds.reverse) .p ρ1
  | _ => False := rfl
end
end Dc
set_option maxHeartbeats 2000000
namespace Dc
open PySem L2 PyProof.Rows PySem.W L2H
def dTupRg (ra rb : RE) : RE := fun x ρ Q => ra x ρ fun d _ ρ1 => rb x ρ1 fun e _ ρ2 => match d, e with
  | .int a, .int b => RgOk a b ∧ Q (.tup (ups a (b - a).toNat)) .p ρ2
  | _, _ => False
def fDictL : FN
  | [.lst ds], k => ∃ kvs : List (Key × D), ds = kvs.map pairD ∧ k (.dic (mergeD [] kvs)) .f
  | _, _ => False
def dcL (own : List Nat) (ρw : Env) (g : RG) (tt : RT) (tk tv : RE) : List D → List (Key × D) → (List (Key × D) → Prop) → Prop
  | [], acc, k => k acc
  | d :: ds, acc, k => g d ρw fun ρ1 => tt noX ρ1 fun b ρ2 =>
    if b = true then tk noX ρ2 fun y _ ρ3 => tv noX ρ3 fun e ge ρ4 => ∃ key, toKey y = some key ∧ wipeE (leak e ge ρ4) own = ρw ∧ dcL own ρw g tt tk tv ds (putD acc key e) k else wipeE ρ2 own = ρw ∧ dcL own ρw g tt tk tv ds acc k
def dDc (it : RI) (fz own : List Nat) (g : RG) (tt : RT) (tk tv : RE) : RE := fun x ρ Q => it x ρ fun ds ρ1 => ds.length ≤ sizeLine ∧
  dcL own (wipeE (frz (own ++ fz) ρ1) own) g tt tk tv ds [] fun acc => Q (.dic acc) .f (frz (own ++ fz) ρ1)
section
variable {X : Cx} {T : Tx} {W : WX} {re ra rb : RE} {e a b : Expr}
variable {tg iter : Expr} {ri : RI} {js : List Nat} {g : RG} {pos : Pos}
variable {ta : RAt} {d : Expr}
@[simp] theorem ofi {x : XQ} {ρ : Env} {Q : EQ} : dTupRg ra rb x ρ Q = ra x ρ fun d _ ρ1 => rb x ρ1 fun e _ ρ2 => match d, e with
  | .int a, .int b => RgOk a b ∧ Q (.tup (ups a (b - a).toNat)) .p ρ2
  | _, _ => False := rfl
@[simp] theorem ofj {it : RI} {fz own : List Nat} {g : RG} {tt : RT} {tk tv : RE} {x : XQ} {ρ : Env} {Q : EQ} : dDc it fz own g tt tk tv x ρ Q = it x ρ fun ds ρ1 => ds.length ≤ sizeLine ∧
  dcL own (wipeE (frz (own ++ fz) ρ1) own) g tt tk tv ds [] fun acc => Q (.dic acc) .f (frz (own ++ fz) ρ1) := rfl
@[simp] theorem v_dictL {kvs : List (Key × D)} {k : D → Tag → Prop} : fDictL [.lst (kvs.map pairD)] k = ∃ kv2 : List (Key × D), kvs.map pairD = kv2.map pairD ∧ k (.dic (mergeD [] kv2)) .f := rfl
end
end Dc
set_option maxHeartbeats 2000000
namespace L2
open PySem PyProof.Rows PySem.W
section
variable {P : Program} {w : World} {A : Around} {E : Value → Shared → Prop} {s : Shared}
set_option maxHeartbeats 4000000 in
end
end L2
namespace Dc
open PySem L2 PyProof.Rows PySem.W L2H
def dSortSet (re : RE) : RE := fun x ρ Q => re x ρ fun d _ ρ1 => ∃ ns : List Int, d = .lst (ns.map D.int) ∧ ns.length < 63 ∧ ∀ ms : List Int, ms.Pairwise (· < ·) → (∀ k, k ∈ ms ↔ k ∈ ns) → Q (.lst (ms.map D.int)) .f ρ1
def dCntI (ro re : RE) : RE := fun x ρ Q => ro x ρ fun d _ ρ1 => ∃ ns : List Int, d = .lst (ns.map D.int) ∧ re x ρ1 fun e _ ρ2 => ∃ k : Int, e = .int k ∧ Q (.int (ns.count k : Nat)) .p ρ2
section
variable {X : Cx} {T : Tx} {W : WX} {re ro : RE} {e o : Expr}
@[simp] theorem ofk {x : XQ} {ρ : Env} {Q : EQ} : dSortSet re x ρ Q = re x ρ fun d _ ρ1 => ∃ ns : List Int, d = .lst (ns.map D.int) ∧ ns.length < 63 ∧ ∀ ms : List Int, ms.Pairwise (· < ·) → (∀ k, k ∈ ms ↔ k ∈ ns) → Q (.lst (ms.map D.int)) .f ρ1 := rfl
@[simp] theorem ofm {x : XQ} {ρ : Env} {Q : EQ} : dCntI ro re x ρ Q = ro x ρ fun d _ ρ1 => ∃ ns : List Int, d = .lst (ns.map D.int) ∧ re x ρ1 fun e _ ρ2 => ∃ k : Int, e = .int k ∧ Q (.int (ns.count k : Nat)) .p ρ2 := rfl
end
end Dc
set_option maxHeartbeats 2000000
namespace Dc
open PySem L2 PyProof.Rows PySem.W L2H
def dOwnP (js : List Nat) (n : Nat) (sp : Sps) (ta : RA) : RE := fun x ρ Q => ta x ρ fun ds ρ1 => (pk js ds).length = n ∧ sp (pk js ds) (fun d o => Q d (if o = true then .f else .p) ρ1) (fun e => x e ρ1)
section
variable {js : List Nat} {X : Cx} {T : Tx} {k n n' : Nat} {f : Addr} {fd : FuncData} {ps ks : List Str} {W : WX} {x : Str} {np pos : Pos} {es : List Expr} {kws : List Keyword} {rs : RA} {t : TA}
@[simp] theorem ofn {sp : Sps} {ra : RA} {x : XQ} {ρ : Env} {Q : EQ} : dOwnP js n sp ra x ρ Q = ra x ρ fun ds ρ1 => (pk js ds).length = n ∧ sp (pk js ds) (fun d o => Q d (if o = true then .f else .p) ρ1) (fun e => x e ρ1) := rfl
end
end Dc
set_option maxHeartbeats 2000000
namespace L2
open PySem PyProof.Rows PySem.W
end L2
namespace Dc
open PySem L2 PyProof.Rows PySem.W L2H
def dIdxI (ro re : RE) : RE := fun x ρ Q => ro x ρ fun d _ ρ1 => ∃ ns : List Int, d = .lst (ns.map D.int) ∧ re x ρ1 fun e _ ρ2 => ∃ k : Int, e = .int k ∧ k ∈ ns ∧ Q (.int (ns.idxOf k : Nat)) .p ρ2
section
variable {X : Cx} {T : Tx} {W : WX} {re ro : RE} {e o : Expr}
@[simp] theorem ofp {x : XQ} {ρ : Env} {Q : EQ} : dIdxI ro re x ρ Q = ro x ρ fun d _ ρ1 => ∃ ns : List Int, d = .lst (ns.map D.int) ∧ re x ρ1 fun e _ ρ2 => ∃ k : Int, e = .int k ∧ k ∈ ns ∧ Q (.int (ns.idxOf k : Nat)) .p ρ2 := rfl
end
end Dc
set_option maxHeartbeats 1000000
namespace Dc
open PySem L2 PyProof.Rows PySem.W
end Dc
set_option maxHeartbeats 2000000
namespace L2
open PySem PyProof.Rows
end L2
namespace Dc
open PySem L2 PyProof.Rows PySem.W
def dKGet (tab : List (Str × Int)) (re rf : RE) : RE := fun x ρ Q => re x ρ fun d _ ρ1 => rf x ρ1 fun _ _ ρ2 => ∃ p : Str × Int, d = .str p.1 ∧ p ∈ tab ∧ Q (.int p.2) .p ρ2
section
variable {X : Cx} {T : Tx} {W : WX} {re rf : RE} {e f : Expr}
@[simp] theorem o_kget {tab : List (Str × Int)} {x : XQ} {ρ : Env} {Q : EQ} : dKGet tab re rf x ρ Q = re x ρ fun d _ ρ1 => rf x ρ1 fun _ _ ρ2 => ∃ p : Str × Int, d = .str p.1 ∧ p ∈ tab ∧ Q (.int p.2) .p ρ2 := rfl
end
end Dc
set_option maxHeartbeats 2000000
namespace Dc
open PySem L2 PyProof.Rows PySem.W L2H LamX

mutual
def coldD : D → Bool
  | .exc _ _ => false
  | .dic _ => false
  | .tup xs => coldDs xs
  | .lst xs => coldDs xs
  | .obj _ xs => coldDs xs
  | .tpz xs => coldDs xs
  | _ => true
def coldDs : List D → Bool
  | [] => true
  | d :: r => coldD d && coldDs r
end
mutual
theorem Den.off {T : Tx} {c : Dx T} {B : Hp} {a p : Addr} {n : Nat} : ∀ {v : V} {d : D}, Den (c.on a n p) B v d → coldD d = true → Den c B v d
  | _, _, .non, _ => .non
  | _, _, .bl b, _ => .bl b
  | _, _, .int i, _ => .int i
  | _, _, .str x, _ => .str x
  | _, _, .tup h r, f => .tup h (Dens.off r f)
  | _, _, .lst h n r, f => .lst h n (Dens.off r f)
  | _, _, .dic _ _ _, f => Bool.noConfusion (show false = true from f)
  | _, _, .obj h r, f => .obj h (Dens.off r f)
  | _, _, .ptr h, _ => .ptr h
  | _, _, .adr, _ => .adr
  | _, _, .clo h, _ => .clo h
  | _, _, .scr h, _ => .scr h
  | _, _, .exc _ _ _, f => Bool.noConfusion (show false = true from f)
  | _, _, .tpz h h1 h2 r, f => .tpz h h1 h2 (Dens.off r f)
theorem Dens.off {T : Tx} {c : Dx T} {B : Hp} {a p : Addr} {n : Nat} : ∀ {vs : List V} {ds : List D}, Dens (c.on a n p) B vs ds → coldDs ds = true → Dens c B vs ds
  | _, _, .nil, _ => .nil
  | _, _, .cons h r, f => by
    have f : (coldD _ && coldDs _) = true := f
    rw [Bool.and_eq_true] at f
    exact .cons (Den.off h f.1) (Dens.off r f.2)
end
theorem OwnAt.off {T : Tx} {c : Dx T} {B H : Hp} {a p b : Addr} {n : Nat} {d : D} (h : OwnAt (c.on a n p) B H b d) (f : coldD d = true) : OwnAt c B H b d := by
  cases h with
  | lst h r => exact .lst h (r.off f)
  | dic h r => cases f
theorem OwnAt.on {T : Tx} (ht : T.hot = none) {c : Dx T} {B H : Hp} {a p b : Addr} {n : Nat} {d : D} (h : OwnAt c B H b d) : OwnAt (c.on a n p) B H b d := by
  cases h with
  | lst h r => exact .lst h (r.on ht)
  | dic h r => exact .dic h (r.on ht)
def chill (ρ : Env) : Env := ρ.map fun s => match s with
  | .no => .no
  | .sh d => if coldD d = true then .sh d else .no
  | .own d => if coldD d = true then .own d else .no
theorem chill_get {ρ : Env} {i : Nat} {s : Sl} (h : (chill ρ)[i]? = some s) : s = .no ∨ ∃ d, coldD d = true ∧ ((s = .sh d ∧ ρ[i]? = some (.sh d)) ∨ (s = .own d ∧ ρ[i]? = some (.own d))) := by
  unfold chill at h
  rw [List.getElem?_map] at h
  cases e : ρ[i]? with
  | none => rw [e] at h; cases h
  | some z =>
    rw [e] at h
    have h := Option.some.inj h
    cases z with
    | no => exact .inl h.symm
    | sh d =>
      dsimp only at h
      split at h
      · rename_i q; exact .inr ⟨d, q, .inl ⟨h.symm, rfl⟩⟩
      · exact .inl h.symm
    | own d =>
      dsimp only at h
      split at h
      · rename_i q; exact .inr ⟨d, q, .inr ⟨h.symm, rfl⟩⟩
      · exact .inl h.symm
theorem chill_own {ρ : Env} {i : Nat} {d : D} (h : (chill ρ)[i]? = some (.own d)) : ρ[i]? = some (.own d) := by
  rcases chill_get h with e | ⟨d', _, ⟨e, _⟩ | ⟨e, q⟩⟩
  · cases e
  · cases e
  · cases e; exact q
theorem own_chill {ρ : Env} {i : Nat} {d : D} (h : ρ[i]? = some (.own d)) (f : coldD d = true) : (chill ρ)[i]? = some (.own d) := by
  unfold chill
  rw [List.getElem?_map, h]
  show some (if coldD d = true then Sl.own d else Sl.no) = _
  rw [if_pos f]
section
variable {T : Tx} {c : Dx T} {σ : L2.St} {B H : Hp} {ρ : Env} {a p : Addr} {n : Nat}
theorem Rel.off (R : Rel (c.on a n p) σ B H ρ) : Rel c σ B H (chill ρ) := by
  refine ⟨R.ex, R.pail, R.ent, R.fb, by rw [R.len]; simp [chill], fun i o s h1 h2 => ?_, fun i j b d e h1 h2 h3 h4 => R.dj i j b d e h1 (chill_own h2) h3 (chill_own h4)⟩
  rcases chill_get h2 with rfl | ⟨d, hc, ⟨rfl, q⟩ | ⟨rfl, q⟩⟩
  · exact .no
  · have z := R.sl i o _ h1 q
    cases z with
    | sh z => exact .sh (z.off hc)
  · have z := R.sl i o _ h1 q
    cases z with
    | own m z => exact .own ⟨m.b, m.p, m.h, m.f⟩ (z.off hc)
theorem Rel.on (ht : T.hot = none) (R : Rel c σ B H ρ) (a : Addr) (n : Nat) (p : Addr) : Rel (c.on a n p) σ B H ρ := by
  refine ⟨R.ex, R.pail, R.ent, R.fb, R.len, fun i o s h1 h2 => ?_, R.dj⟩
  have z := R.sl i o s h1 h2
  cases z with
  | no => exact .no
  | sh z => exact .sh (z.on ht)
  | own m z => exact .own ⟨m.b, m.p, m.h, m.f⟩ (z.on ht)
theorem Tg.off {v : V} {d : D} {g : Tag} (h : Tg (c.on a n p) σ B H ρ v d g) (f : coldD d = true) : Tg c σ B H (chill ρ) v d g := by
  cases h with
  | p h => exact .p (h.off f)
  | f m o q => exact .f ⟨m.b, m.p, m.h, m.f⟩ (o.off f) fun i e h1 h2 => q i e h1 (chill_own h2)
  | b h1 h2 => exact .b h1 (own_chill h2 f)
end

def trySuite : List Stmt → List Stmt
  | .Try _ [.ExceptHandler _ _ su _] _ _ _ :: _ => su
  | _ => []
def tryRest : List Stmt → List Stmt
  | _ :: r => r
  | _ => []
abbrev noW : WX := fun _ _ _ _ => False
def kSu (k : Kd) : Kd := { nx := fun _ => False, rt := fun d g ρ => coldD d = true ∧ k.rt d g (chill ρ), ex := noX }
def tSu (T : Tx) (xm : Nat → Bool) (ts : RS) (a : Addr) (cls : Value) (d : Option Addr) : TS := fun Dn σ H => ∃ (n : Nat) (p : Addr), cls = .ref (T.cl n) ∧ d = some p ∧ xm n = true ∧ liftS (T.on a n p) noW ts Dn σ H
theorem tSu.up {T : Tx} {xm : Nat → Bool} {ts : RS} {a : Addr} {cls : Value} {d : Option Addr} {Q : VK} {D : Ends} {σ : L2.St} {H : Hp} (h : tSu T xm ts a cls d { nx := fun _ _ => False, rt := Q } σ H) (e : D.rt = Q) : tSu T xm ts a cls d D σ H := by
  obtain ⟨n, p, h1, h2, h3, c, B, ρ, k, R, XX, q, n1, n2, n3, n4⟩ := h
  exact ⟨n, p, h1, h2, h3, c, B, ρ, k, R, XX, q, fun ρ' σ' B' H' z e1 R' => (n1 ρ' σ' B' H' z e1 R').elim, fun d g ρ' v σ' B' H' z e1 R' t => by rw [e]; exact n2 d g ρ' v σ' B' H' z e1 R' t,
    fun ρ' σ' B' H' z e1 R' => (n3 ρ' σ' B' H' z e1 R').elim, fun ρ' σ' B' H' z e1 R' => (n4 ρ' σ' B' H' z e1 R').elim⟩
def dSu (xm : Nat → Bool) (N i : Nat) (ts : RS) (k : Kd) (e : D) : Prop := ∃ n d, e = .exc n [d] ∧ xm n = true ∧ i < N ∧ ts (kSu k) ((List.replicate N Sl.no).set i (.sh (.exc n [d])))
def wSu (T : Tx) (c1 c2 c3 : Value) (N i : Nat) (xm : Nat → Bool) (ts : RS) (Q : VK) : XK := fun cls dd H => exmAny T.K cls [c1, c2, c3] = some true ∧ ∀ σ : L2.St, σ.length = N → ∀ a, H a = none → tSu T xm ts a cls dd { nx := fun _ _ => False, rt := Q } (σ.set i (some (.ref a))) H
theorem rel_blank {T : Tx} {c : Dx T} {B H : Hp} {σ : L2.St} {N : Nat} (h : Hold c B H) (h0 : c.H0 = H) (hl : σ.length = N) : Rel c σ B H (List.replicate N Sl.no) := by
  have no : ∀ {i : Nat} {s : Sl}, (List.replicate N Sl.no)[i]? = some s → s = .no := fun {i s} q => by
    rw [List.getElem?_replicate] at q
    split at q
    · exact (Option.some.inj q).symm
    · cases q
  refine ⟨h.ex, h.pail, by rw [h0]; exact ExP.rfl', h.fb, by rw [hl, List.length_replicate], fun i o s _ h2 => ?_, fun i j a d e _ h2 => ?_⟩
  · obtain rfl := no h2; exact .no
  · cases no h2
theorem su_ok {T : Tx} (ht : T.hot = none) {c : Dx T} {B H : Hp} {k : Kd} {Q : VK} {xm : Nat → Bool} {N i : Nat} {ts : RS} {e : D} {cls : Value} {dd : Option Addr} {c1 c2 c3 : Value} (ho : Hold c B H) (h0 : c.H0 = H) (hd : XDen c B cls dd e) (h : dSu xm N i ts k e)
    (hxm : ∀ n, xm n = true → exmAny T.K (.ref (T.cl n)) [c1, c2, c3] = some true)
    (hr : ∀ d g ρ' v σ' B' H', k.rt d g ρ' → Ex B B' → Rel c σ' B' H' ρ' → Tg c σ' B' H' ρ' v d g → Q v H') : wSu T c1 c2 c3 N i xm ts Q cls dd H := by
  obtain ⟨n, d, rfl, hn, hi, hs⟩ := h
  cases hd with
  | @one _ p v _ ep den =>
    refine ⟨hxm n hn, fun σ hl a na => ⟨n, p, rfl, rfl, hn, c.on a n p, B, _, kSu k, ((rel_blank ho h0 hl).on ht a n p).setSh i (.exc rfl ep (den.on ht)), XW.no, hs, fun _ _ _ _ z => z.elim, fun d g ρ' v σ' B' H' hq eb R' t => ?_, fun _ _ _ _ z => z.elim, fun _ _ _ _ z => z.elim⟩⟩
    exact hr d g (chill ρ') v σ' B' H' hq.2 eb R'.off (t.off hq.1)

def FormOk (Z : Cx) (a : Str) (S : Stmt) (fm : Ends → L2.St → V → Hp → Prop) : Prop := ∀ t : TE, (∀ p1 p2, PE Z (.Call (.Name a p1) [] [] p2) t) → PSs Z [S] fun D σ H => t σ H fun v H' => fm D σ v H'
def FmOk (T : Tx) (fm : Ends → L2.St → V → Hp → Prop) (fd : Kd → Env → D → Prop) : Prop := ∀ (c : Dx T) (σ : L2.St) (B H : Hp) (ρ : Env) (v : V) (d : D) (k : Kd) (Dn : Ends), Rel c σ B H ρ → Den c B v d → fd k ρ d →
  (∀ ρ' σ' B' H', k.nx ρ' → Ex B B' → Rel c σ' B' H' ρ' → Dn.nx σ' H') → (∀ d g ρ' v σ' B' H', k.rt d g ρ' → Ex B B' → Rel c σ' B' H' ρ' → Tg c σ' B' H' ρ' v d g → Dn.rt v H') → fm Dn σ v H
def fmC (w : Str) : Ends → L2.St → V → Hp → Prop := fun D σ v H => (2 : Nat) ≤ sizeLine ∧ ∀ p, H p = none → D.rt (.ref p) (upd H p (.lst [.str w, v]))
def fdC (w : Str) : Kd → Env → D → Prop := fun k ρ d => k.rt (.lst [.str w, d]) .f ρ
theorem form_c {Z : Cx} {a : Str} {w : Str} {j : Nat} {p1 p2 p3 p4 p5 : Pos} (hs1 : starEach (.Constant (.str w) j p4 :: [.Call (.Name a p1) [] [] p2]) Z.env = (false, eval (.Constant (.str w) j p4) Z.env) :: starEach [.Call (.Name a p1) [] [] p2] Z.env := by rfl)
    (hs2 : starEach [.Call (.Name a p1) [] [] p2] Z.env = (false, eval (.Call (.Name a p1) [] [] p2) Z.env) :: starEach [] Z.env := by rfl) : FormOk Z a (.Return (some (.List [.Constant (.str w) j p4, .Call (.Name a p1) [] [] p2] p5)) p3) (fmC w) := fun t h => by
  refine (pss_one (ps_ret (pe_lst (pa_cons pe_str (pa_cons (h p1 p2) pa_nil hs2) hs1)))).imp fun D σ H q => ?_
  exact q
theorem fm_c {T : Tx} {w : Str} : FmOk T (fmC w) (fdC w) := fun c σ B H ρ v d k Dn R n h _ rt => ⟨by decide, fun p hp => by
  obtain ⟨B', e1, e2, r⟩ := Res.newL (c := c) (B := B) (ds := [.str w, d]) R.ex hp (.cons (.str w) (.cons n .nil))
  obtain ⟨R', t⟩ := r σ ρ R
  exact rt _ _ _ _ _ _ _ h e1 R' t⟩

abbrev SpC := (D → Prop) → (D → Prop) → (D → Bool → Prop) → Prop
def rCau (xm : Nat → Bool) (n i : Nat) (ts : RS) (fd : Kd → Env → D → Prop) (rr : RS) (xq q : D → Prop) : RS := fun k ρ =>
  (∀ e, xq e → dSu xm n i ts k e) ∧ ∀ d, q d → fd { k with nx := fun ρ' => rr k ρ' } ρ d
def dCau (fz : List Nat) (te : RE) (spc : SpC) : RE := fun _ ρ Q => ∃ xq q : D → Prop, te (fun e _ => xq e) (wipeO (frz fz ρ)) (fun d _ _ => q d) ∧ spc xq q fun d o => Q d (if o = true then .f else .p) (frz fz ρ)
def cauT (T : Tx) (N : List Str) (c1 c2 c3 : Value) (xm : Nat → Bool) (i : Nat) (ts : RS) (fm : Ends → L2.St → V → Hp → Prop) (rr : RS) : (XK → Hp → VK → Prop) → Hp → VK → Prop := fun tl H Q => ∀ f : Addr,
  tl (wSu T c1 c2 c3 N.length i xm ts Q) H fun v H' => fm { nx := fun σ' H2 => liftS T noW rr { nx := fun _ H3 => Q .non H3, rt := Q } σ' H2, rt := Q } (L2.start N [.ref f]) v H'
section
variable {X : Cx} {T : Tx} {kk i : Nat} {g : Addr} {cdg c1 c2 c3 : Value} {sg : Scope} {N : List Str} {x a y q x1 x2 x3 : Str} {S b0 : Stmt} {su rest : List Stmt} {xm : Nat → Bool} {ts rr : RS} {fm : Ends → L2.St → V → Hp → Prop} {q1 q2 q3 q4 r5 r6 : Pos}
theorem cauG {ks : Nat} (hK : X.K = T.K) (hr : Room (ks + 1) X.A) (hgu : X.A.guards = some []) (nd : N.Nodup) (h0 : ∀ f : Addr, (L2.start N [V.ref f])[0]? = some (some (V.ref f))) (hi : N[i]? = some y) (gy : sg.names.lookup y = some .local)
    (l1 : sg.names.lookup x1 = some .globalImplicit) (m1 : X.mg x1 = some c1) (l2 : sg.names.lookup x2 = some .globalImplicit) (m2 : X.mg x2 = some c2) (l3 : sg.names.lookup x3 = some .globalImplicit) (m3 : X.mg x3 = some c3)
    (hx : ∀ n, xm n = true → ExcC T.K (T.cl n) ∧ findIn T.K (.ref (T.cl n)) (T.xf n) = some none)
    (hfm : ∀ (s : Shared) (H : Hp) (pn : List (Addr × PySem.Obj)) (xe : Value → Shared → Prop), FormOk (((cxOf C8.CX0 X.prog X.w X.K X.mg X.base N x sg g cdg X.A X.stack s H C8.E0).nox).tr pn xe) a S fm)
    (hsu : ∀ (s : Shared) (H : Hp) (b : Addr) (oe : PySem.Obj) (n : Nat) (p : Addr) (pn : List (Addr × PySem.Obj)), HotX (((cxOf C8.CX0 X.prog X.w X.K X.mg X.base N x sg g cdg X.A X.stack s H C8.E0).nox).suite b ((b, oe) :: pn)) (T.on b n p) b oe n p →
      RoomH ks (((cxOf C8.CX0 X.prog X.w X.K X.mg X.base N x sg g cdg X.A X.stack s H C8.E0).nox).suite b ((b, oe) :: pn)).A → (((cxOf C8.CX0 X.prog X.w X.K X.mg X.base N x sg g cdg X.A X.stack s H C8.E0).nox).suite b ((b, oe) :: pn)).A.guards = some [] →
      PSs (((cxOf C8.CX0 X.prog X.w X.K X.mg X.base N x sg g cdg X.A X.stack s H C8.E0).nox).suite b ((b, oe) :: pn)) (b0 :: su) (liftS (T.on b n p) noW ts))
    (hrr : ∀ (s : Shared) (H : Hp), Room ks ((cxOf C8.CX0 X.prog X.w X.K X.mg X.base N x sg g cdg X.A X.stack s H C8.E0).nox).A → ((cxOf C8.CX0 X.prog X.w X.K X.mg X.base N x sg g cdg X.A X.stack s H C8.E0).nox).A.guards = some [] → PSs ((cxOf C8.CX0 X.prog X.w X.K X.mg X.base N x sg g cdg X.A X.stack s H C8.E0).nox) rest (liftS T noW rr))
    (b1 : (x1 == ("__debug__" : Str)) = false := by decide) (b2 : (x2 == ("__debug__" : Str)) = false := by decide) (b3 : (x3 == ("__debug__" : Str)) = false := by decide) :
    GivesTo X N x sg g cdg (.Try [S] [.ExceptHandler (some (.Tuple [.Name x1 q1, .Name x2 q2, .Name x3 q3] kk q4)) (some y) (b0 :: su) r5] [] [] r6 :: rest) a q (cauT T N c1 c2 c3 xm i ts fm rr) := by
  intro f c' s H Q tl act hc h
  let Z : Cx := (cxOf C8.CX0 X.prog X.w X.K X.mg X.base N x sg g cdg X.A X.stack s H C8.E0).nox
  have hZ : RoomH ks Z.A := roomH_of (hr.deeper _)
  have tr : PS Z _ _ := ps_try3 (X := Z) (i := i) (y := y) (kk := kk) (tp := q4) (p1 := q1) (p2 := q2) (p3 := q3) (pos := r6) (pos' := r5) (b0 := b0) (suite := su) (body := [S])
    (tb := fun W D σ H => ∃ Ech : XK, (∀ cls d σ' H', Ech cls d H' → W cls d σ' H') ∧ σ[0]? = some (some (.ref f)) ∧ H c' = some (CodeO c' q) ∧ tl Ech H fun v H' => fm D σ v H')
    (ts := fun a cls d D σ H => σ.length = N.length → tSu T xm ts a cls d D σ H) rfl rfl nd hi gy ⟨l1, b1, .inl m1⟩ ⟨l2, b2, .inl m2⟩ ⟨l3, b3, .inl m3⟩
    (fun W pn xe tk _ => ⟨fun pins s' σ H' D I h' => by
      obtain ⟨Ech, hW, h1, h2, h3⟩ := h'
      exact (hfm s H pn xe _ fun p1 p2 => act W pn xe Ech p1 p2 tk hW).run pins s' σ H' D I ⟨h1, h2, h3⟩⟩)
    (fun a' oe cls d pn hz hf => ⟨fun pins s' σ H' D I h' => by
      obtain ⟨n, p, rfl, rfl, hn, h'⟩ := h' I.len
      obtain ⟨z1, z2⟩ := hx n hn
      exact (hsu s H a' oe n p pn ⟨hK, rfl, List.mem_cons_self, hz, hf, by show ExcC X.K _; rw [hK]; exact z1, by show findIn X.K _ _ = _; rw [hK]; exact z2⟩ ⟨hZ.dp, hZ.un⟩ hgu).run pins s' σ H' D I h'⟩)
  refine ⟨_, pss_cons tr (hrr s H (hr.deeper _) hgu), ?_⟩
  refine ⟨wSu T c1 c2 c3 N.length i xm ts Q, fun cls d σ' H' hh => ?_, h0 f, hc, h f⟩
  refine ⟨by show exmAny X.K _ _ = _; rw [hK]; exact hh.1, fun a' na hl => (hh.2 σ' (by simpa using hl) a' na).up rfl⟩
end
theorem le_cau {T : Tx} {W : WX} {P : Addr} {q : Str} {N : List Str} {c1 c2 c3 : Value} {fz : List Nat} {xm : Nat → Bool} {i : Nat} {te : RE} {ts rr : RS} {fm : Ends → L2.St → V → Hp → Prop} {fd : Kd → Env → D → Prop} {spc : SpC} (ht : T.hot = none) (hm : (P, q) ∈ T.tb) (hu : ∀ p ∈ T.tb, p.1 = P → p.2 = q)
    (hxm : ∀ n, xm n = true → exmAny T.K (.ref (T.cl n)) [c1, c2, c3] = some true) (hfm : FmOk T fm fd)
    (hp : ∀ xq q Qd a, spc xq q Qd → rCau xm N.length i ts fd rr xq q (kdOf Qd fun _ => False) (startE N [.adr a])) :
    ∀ σ H Q', liftE T W (dCau fz te spc) σ H Q' → tLamN P q (cauT T N c1 c2 c3 xm i ts fm rr) (fun E => liftE T (fun cls d _ H => E cls d H) te) σ H Q' := by
  rintro σ H Q' ⟨c, B, ρ, x, Q, R, XX, ⟨xq, qq, h, hs⟩, fin⟩
  obtain ⟨B0, e0, R0⟩ := frz_ok fz R
  refine ⟨R0.pail.tb _ hm, fun H1 gr f => ?_⟩
  obtain ⟨R1, k1⟩ := R0.grown gr hm hu
  obtain ⟨pe, pq⟩ := hp xq qq _ f hs
  -- what is handed on by the def is handed on by the call
  have back : ∀ (H' : Hp) (B' : Hp), Ex B0 B' → ExP c H1 H' → Rel c σ B' H' (frz fz ρ) → ∀ d o v' B2 H2, Q d (if o = true then .f else .p) (frz fz ρ) → Ex B' B2 → ExP (callee c σ H' (frz fz ρ)) H' H2 → Hold (callee c σ H' (frz fz ρ)) B2 H2 → RetOk (callee c σ H' (frz fz ρ)) B2 H2 v' d o → Q' v' H2 := fun H' B' eb k2 Rb d o v' B2 H2 hq e2 kk ho ro => by
    have kc : ExP c H' H2 := kk
    exact fin _ _ _ v' B2 H2 hq ((e0.trans eb).trans e2) ((k1.trans k2).trans kc) (callee_back Rb e2 kk ho) (callee_ret Rb e2 kk ho ro)
  have rets : ∀ (H' : Hp) (B' : Hp), Ex B0 B' → ExP c H1 H' → Rel c σ B' H' (frz fz ρ) → ∀ d g ρ' v σ' B2 H2, (kdOf (fun d o => Q d (if o = true then .f else .p) (frz fz ρ)) fun _ => False).rt d g ρ' → Ex B' B2 → Rel (callee c σ H' (frz fz ρ)) σ' B2 H2 ρ' → Tg (callee c σ H' (frz fz ρ)) σ' B2 H2 ρ' v d g → Q' v H2 := fun H' B' eb k2 Rb d g ρ' v σ' B2 H2 hq e2 R2 t => by
    refine back H' B' eb k2 Rb d (frOf g) v B2 H2 hq e2 R2.ent R2.hold ?_
    cases t with
    | p n => exact .p n
    | f m o _ => exact .f m o
    | b h1 h2 => exact .f (R2.ownB h1 h2).1 (R2.ownB h1 h2).2
  refine ⟨callee c σ H1 (frz fz ρ), B0, wipeO (frz fz ρ), _, _, R1.inner, fun e ρ' cls dd σ' B' H' hx eb R' hd => ?_, h, fun d g ρ' v B' H' hQ eb kp R' t => ?_⟩
  · have k2 : ExP c H1 H' := R'.ent
    have Rb : Rel c σ B' H' (frz fz ρ) := callee_back R1 eb k2 R'.hold
    exact su_ok ht (callee_hold Rb) rfl (XDen.to (c := callee c σ H1 (frz fz ρ)) (c' := callee c σ H' (frz fz ρ)) rfl hd) (pe e hx) hxm (rets H' B' eb k2 Rb)
  · obtain ⟨B2, e2, R2, den⟩ := leak_ok R' t
    have kc : ExP c H1 H' := kp
    have Rb : Rel c σ B2 H' (frz fz ρ) := callee_back R1 (eb.trans e2) kp R2.hold
    have den' : Den (callee c σ H' (frz fz ρ)) B2 v d := Den.to (c := callee c σ H1 (frz fz ρ)) (c' := callee c σ H' (frz fz ρ)) rfl den
    refine hfm (callee c σ H' (frz fz ρ)) (L2.start N [.ref f]) B2 H' (startE N [.adr f]) v d _ _ (rel_start (callee_hold Rb) rfl (.cons .adr .nil)) den' (pq d hQ) (fun ρ2 σ2 B3 H3 hn e3 R3 => ?_) (rets H' B2 (eb.trans e2) kc Rb)
    refine ⟨callee c σ H' (frz fz ρ), B3, ρ2, kdOf (fun d o => Q d (if o = true then .f else .p) (frz fz ρ)) fun _ => False, R3, fun _ _ _ _ _ _ _ z => z.elim, hn, fun ρ4 σ4 B4 H4 hq e4 R4 => ?_, fun d g ρ' v σ' B4 H4 hq e4 R4 t => rets H' B2 (eb.trans e2) kc Rb d g ρ' v σ' B4 H4 hq (e3.trans e4) R4 t, fun _ _ _ _ z => z.elim, fun _ _ _ _ z => z.elim⟩
    exact back H' B2 (eb.trans e2) kc Rb .non false .non B4 H4 hq (e3.trans e4) R4.ent R4.hold (.p .non)

theorem qe_cau {X : Cx} {T : Tx} {W : WX} {k : Nat} {g c P : Addr} {fdg : FuncData} {st : Stmt} {x a : Str} {Ng : List Str} {c1 c2 c3 : Value} {fz : List Nat} {xm : Nat → Bool} {i : Nat} {te : RE} {ts rr : RS} {fm : Ends → L2.St → V → Hp → Prop} {fd : Kd → Env → D → Prop} {spc : SpC} {params : Arguments} {body : Expr} {scope : Scope} {p lpos pos : Pos}
    (Fg : Fun X.K x x st g fdg) (hG : ∀ cdg : Value, GivesTo X Ng x (defScope st) g cdg (defBody st) a (X.env.qual ++ "<lambda>") (cauT T Ng c1 c2 c3 xm i ts fm rr)) (ht : T.hot = none) (hfm : FmOk T fm fd)
    (hp : ∀ xq q Qd a, spc xq q Qd → rCau xm Ng.length i ts fd rr xq q (kdOf Qd fun _ => False) (startE Ng [.adr a])) (hm : X.mg x = some (.ref g)) (hbind : ∀ (s : Shared) (u : Value), BindsTo s fdg ⟨[u], []⟩ [(a, u)]) (Sg : FnScope Ng [a] (defScope st))
    (hNg : Ng[0]? = some a) (hva : Vis (defScope st) a) (TB : TabB X.base X.mg c P) (code : X.env.code = .ref c) (hmT : (P, X.env.qual ++ "<lambda>") ∈ T.tb) (hu : ∀ p ∈ T.tb, p.1 = P → p.2 = X.env.qual ++ "<lambda>") (hr : Room (k + 2) X.A) (hgu : X.A.guards = some []) (hxm : ∀ n, xm n = true → exmAny T.K (.ref (T.cl n)) [c1, c2, c3] = some true)
    (L : LamS X.env.scope scope) (hbody : ∀ (A : Around) (outer : List PySem.Env) (s : Shared) (H : Hp) (E : XK) (f c' : Addr), Room k (A.deeper (lamEnv X scope s.heap.objs.size f c')) → A.guards = some [] → PE (lamCx X A outer s H E scope f c') body (liftE T (fun cls d _ H => E cls d H) te))
    (hg : Gl X x := by rfl) (noD : defaultsOf params X.env = ([], []) := by rfl) (bind : ∀ (q : Str) (cl : List (Str × Addr)) (pm cv ct : Value), bindArgs (kla_fn "<lambda>" q params body scope cl pm cv ct) ⟨[], []⟩ = pure [] := by intros; rfl)
    (hdb : (x == ("__debug__" : Str)) = false := by decide) (hd : (a == ("__debug__" : Str)) = false := by decide) (hcd : (a == ("__classdict__" : Str)) = false := by decide) :
    PE X (.Call (.Name x p) [.Lambda params body scope lpos] [] pos) (liftE T W (dCau fz te spc)) := by
  obtain ⟨oc, od, kV, doc, pm, an, cdv, ct, osl, rfl, lk, hcd'⟩ := Fg.ex
  exact (pe_lamN hg hm Fg.kp lk hcd' hbind Sg hNg hva (hG cdv) TB code hr hgu L noD bind hbody hdb hd hcd).imp (le_cau ht hmT hu hxm hfm hp)

section
variable {X : Cx} {T : Tx}
theorem opd_neH {n : Nat} (hr : L2H.RoomH n X.A) (hK : X.K = T.K := by rfl) : OpR X (compareOp .NotEq) (r2D T fNe) := by
  rintro pins s σ H x y v u Q I rx ry ⟨c, B, d1, d2, k, ex, t1, t2, ⟨h1, h2, h⟩, q⟩
  exact op_neD (by have := hr.un; omega) pins s σ H _ _ v u Q I rx ry ⟨_, _, by rw [hK]; exact t1.dp ex h1.1, by rw [hK]; exact t2.dp ex h2.1, h1.2, h2.2, q _ _ _ _ h (Res.bl _)⟩
end
def rIdxB : V → List V → Hp → VK → Prop := fun x xs H Q => ∃ (p : Addr) (bs : List Bool) (b : Bool), x = .ref p ∧ xs = [.bl b] ∧ H p = some (.lst (bs.map V.bl)) ∧ b ∈ bs ∧ bs.length ≤ sizeLine ∧ Q (.int (bs.idxOf b : Nat)) H
theorem eqs_bools {A : Around} {s : Shared} {b : Bool} (bs : List Bool) : PySem.SeqAt.ItemsEq A s (bs.map Value.bool) bs (.bool b) b :=
  ⟨by simp, fun j h1 h2 => by
    rw [List.getElem_map]
    exact (SeqAt.EqAt.bool_bool bs[j] b).cast (by cases bs[j] <;> cases b <;> rfl)⟩
theorem mt_idxB {X : Cx} : MtR X "list.index" rIdxB := by
  intro pins s σ H x xs v us Q I rx rxs h
  obtain ⟨p, bs, b, rfl, rfl, hH, hb, hz, q⟩ := h
  cases rx
  obtain ⟨u, rfl, ru⟩ := rxs.one
  cases ru
  obtain ⟨z, its, n, r, hl, e⟩ := I.lstM hH
  have ei := bools_of r
  subst ei
  exact PySem.SeqAt.call_list_index (vs := bs.map Value.bool) (ks := bs) (x := .bool b) (k := b) ⟨_, e, rfl, n, by simp⟩ (eqs_bools bs) hz hb ⟨.int (bs.idxOf b : Nat), H, I.tok _, ⟨s.toks, rfl⟩, q⟩
def dIdxB (ro re : RE) : RE := fun x ρ Q => ro x ρ fun d _ ρ1 => (∃ bs : List Bool, d = .lst (bs.map D.bl)) ∧ re x ρ1 fun e _ ρ2 => ∃ (bs : List Bool) (b : Bool), d = .lst (bs.map D.bl) ∧ e = .bl b ∧ b ∈ bs ∧ bs.length ≤ sizeLine ∧ Q (.int (bs.idxOf b : Nat)) .p ρ2
section
variable {X : Cx} {T : Tx} {W : WX} {o e : Expr} {ro re : RE} {apos pos : Pos}
theorem le_idxB : ∀ σ H Q', liftE T W (dIdxB ro re) σ H Q' → tBM T.K "list" rIdxB (liftE T W ro) (tCons (liftE T W re) tNil) σ H Q' := by
  rintro σ H Q' ⟨c, B, ρ, x, Q, R, XX, h, q⟩
  refine ⟨c, B, ρ, x, _, R, XX, h, fun d g ρ1 v B1 H1 h1 e1 k1 R1 t1 => ?_⟩
  obtain ⟨⟨bs, rfl⟩, h1⟩ := h1
  obtain ⟨a, xs, rfl, ha, r⟩ := (t1.tm R1).list R1.ex
  refine ⟨.inl ⟨rfl, xs, .inl (.inl ha)⟩, c, B1, ρ1, x, _, R1, XX.up e1, h1, fun d2 g2 ρ2 v2 B2 H2 h2 e2 k2 R2 t2 => ?_⟩
  obtain ⟨bs', b, eb, rfl, hb, hz, hq⟩ := h2
  have e3 := (t2.tm R2).bl_
  subst e3
  obtain ⟨a', xs', ea, ha', r'⟩ := ((t1.tm R1).mono e2 k2).list R2.ex
  cases ea
  have r' : Dens c B2 xs' (bs'.map D.bl) := by injection eb with eb; rw [← eb]; exact r'
  have ex := r'.bls
  subst ex
  exact ⟨_, bs', b, rfl, rfl, ha', hb, hz, q _ _ _ _ B2 H2 hq (e1.trans e2) (k1.trans k2) R2 (.p (.int _))⟩
theorem qe_idxB (ho : PE X o (liftE T W ro)) (he : PE X e (liftE T W re)) (hK : X.K = T.K := by rfl) (hs : starEach [e] X.env = (false, eval e X.env) :: starEach [] X.env := by rfl) (hbase : attributeBase o "index" X.env (eval o X.env) = eval o X.env := by rfl)
    (hfew : ((backTo pos (starEach [e] X.env)).all (fun x => !x.1) && (backToKw pos (keywordEach [] X.env)).all (fun x => x.1.isSome) && decide ([e].length + ([] : List Keyword).length + (if ([] : List Keyword).isEmpty then 0 else 1) < 30)) = true := by rfl) (hline : (apos.endLine == pos.line) = true := by rfl)
    (hpl : (backTo pos (starEach [] X.env)).any (·.1) = false := by rfl) : PE X (.Call (.Attribute o "index" apos) [e] [] pos) (liftE T W (dIdxB ro re)) :=
  (pe_bm PySem.F.plainAttrs_list PySem.F.slot_list_index PySem.F.type_list_index mt_idxB ho (pa_cons he pa_nil hs) hbase hfew hline hs hpl).imp (by rw [hK]; exact le_idxB)
@[simp] theorem ofq {x : XQ} {ρ : Env} {Q : EQ} : dIdxB ro re x ρ Q = ro x ρ fun d _ ρ1 => (∃ bs : List Bool, d = .lst (bs.map D.bl)) ∧ re x ρ1 fun e _ ρ2 => ∃ (bs : List Bool) (b : Bool), d = .lst (bs.map D.bl) ∧ e = .bl b ∧ b ∈ bs ∧ bs.length ≤ sizeLine ∧ Q (.int (bs.idxOf b : Nat)) .p ρ2 := rfl
@[simp] theorem ofr {x : XQ} {ρ : Env} {Q : EQ} {fz : List Nat} {te : RE} {spc : SpC} : dCau fz te spc x ρ Q = ∃ xq q : D → Prop, te (fun e _ => xq e) (wipeO (frz fz ρ)) (fun d _ _ => q d) ∧ spc xq q fun d o => Q d (if o = true then .f else .p) (frz fz ρ) := rfl
end
end Dc
set_option maxHeartbeats 2000000
namespace Dc
open PySem L2 PyProof.Rows PySem.W L2H LamX

def permTA (js : List Nat) (t : TA) : TA := fun σ H Q => t σ H fun vs H1 => Q (pk js vs) H1
def permRA (js : List Nat) (ta : RA) : RA := fun x ρ Q => ta x ρ fun ds ρ1 => Q (pk js ds) ρ1
section
variable {X : Cx} {js : List Nat} {k n : Nat} {f C : Addr} {fd : FuncData} {ps ks : List Str} {sp : Sp} {W : WX} {x : Str} {np pos : Pos} {kws : List Keyword} {t : TA}
theorem pe_mkGp (M : Mk X.K C f) (F : FnG X.prog X.w X.K X.mg X.base k f fd ps sp) (hr : Room (k + 1) X.A) (hgu : X.A.guards = some []) (hm : X.mg x = some (.ref C)) (hb : KBp js X.K fd ps ks) (tk : Takes X W)
    (ha : PCs X [] kws pos 0 ks t) (hg : Gl X x := by rfl) (hdb : (x == ("__debug__" : Str)) = false := by decide) : PE X (.Call (.Name x np) [] kws pos) (tMkG C sp W (permTA js t)) := by
  refine ⟨fun pins s σ H Q I h => wpAny_Call_Name_kw (ld_glob I hg hm ?_ hdb)⟩
  refine ha.run X.K.In _ [] pins s σ H _ _ (keeps_K M.kp) I (fun _ _ I => I.kIn) h fun us ws vs H2 s2 I2 r l1 l2 q => ?_
  obtain rfl : us = [] := List.eq_nil_of_length_eq_zero l1
  have hq := q (s2.heap.objs.size + 1) s2.heap.objs.size (I2.hok.fresh (Nat.le_succ _)) (I2.hok.fresh (Nat.le_refl _)) (Nat.ne_of_lt (Nat.lt_succ_self _))
  have I3 := Inv.made (C := C) I2
  refine wpAny_call (make_map (f := f) I2.kIn M.makes M.init (beq_iff_eq.mp M.fn) (codeAny_mono (F.run _ X.stack _ _ ⟨[Value.ref (s2.heap.objs.size + 1)], ks.zip ws⟩ (Value.ref (s2.heap.objs.size + 1) :: pk js ws) _ _ _ (hr.make C [] (ks.zip ws)) hgu
    (I3.env0.make C [] (ks.zip ws)) (hb _ (Value.ref (s2.heap.objs.size + 1)) ws I3.kIn l2) (.cons (show RelV (V.ref (s2.heap.objs.size + 1)) (Value.ref (s2.heap.objs.size + 1)) from rfl) (Vals.pk r js)) hq) fun r s' hq' => ?_))
  cases r with
  | error e => exact passAt tk σ pins _ _ e s' I3 hq'
  | ok fl =>
    cases fl with
    | ret u =>
      obtain ⟨v, H', I4, rv, ev, q3⟩ := I3.after hq'
      subst ev
      exact ⟨rv, ⟨V.ref (s2.heap.objs.size + 1), H', I4, rfl, q3⟩⟩
    | next => exact False.elim hq'
    | brk => exact False.elim hq'
    | cont => exact False.elim hq'
end
def dMakeP (js : List Nat) (cn n : Nat) (sp : SpsI) (ta : RA) : RE := dMake cn n sp (permRA js ta)
section
variable {X : Cx} {T : Tx} {W : WX} {js : List Nat} {ta rs : RA}
theorem le_permA : ∀ σ H Q', liftA T W (permRA js ta) σ H Q' → permTA js (liftA T W ta) σ H Q' := by
  rintro σ H Q' ⟨c, B, ρ, x, Q, R, XX, h, q⟩
  exact ⟨c, B, ρ, x, _, R, XX, h, fun ds ρ1 vs B1 H1 h1 e1 k1 R1 t1 => q _ _ _ B1 H1 h1 e1 k1 R1 (t1.pk js)⟩
theorem qe_mkP {k n cn : Nat} {f : Addr} {fd : FuncData} {ps ks : List Str} {sp : SpsI} {x : Str} {np pos : Pos} {kws : List Keyword} (M : Mk X.K (T.cl cn) f) (F : FnG X.prog X.w X.K X.mg X.base k f fd ps (spI T cn n sp)) (hr : Room (k + 1) X.A) (hgu : X.A.guards = some []) (hm : X.mg x = some (.ref (T.cl cn)))
    (hb : KBp js X.K fd ps ks) (tk : Takes X W) (ha : PCs X [] kws pos 0 ks (liftA T W rs)) (hg : Gl X x := by rfl) (hdb : (x == ("__debug__" : Str)) = false := by decide) : PE X (.Call (.Name x np) [] kws pos) (liftE T W (dMakeP js cn n sp rs)) :=
  (pe_mkGp M F hr hgu hm hb tk ha hg hdb).imp fun σ H Q h => le_permA σ H _ (le_make σ H Q h)
@[simp] theorem ofw {cn n : Nat} {sp : SpsI} {x : XQ} {ρ : Env} {Q : EQ} : dMakeP js cn n sp rs x ρ Q = rs x ρ fun ds ρ1 => (pk js ds).length + 1 = n ∧ sp (pk js ds) (fun os => Q (.obj cn os) .p ρ1) (fun e => x e ρ1) := rfl
end
end Dc
namespace PySem
open Sem (wp)
open Builtin
open Builtin.List
section
variable {prog : Program} {w : World} {A : Around} {R : Result → Shared → Prop}
end
end PySem
namespace PySem
open Sem (wp)
open Builtin
open Builtin.List
section
variable {prog : Program} {w : World} {A : Around}
end
end PySem
namespace PySem.W
open PySem PySem.Calls PyProof.Rows Builtin
section
variable {M : Model} {A : Around} {E : Value → Shared → Prop} {s : Shared} {K : Frag} {x C f : Addr} {ox : Obj} {od : Option Obj}
end
end PySem.W
namespace Dc
open PySem L2 PyProof.Rows PySem.W L2H LamX
structure FnU (P : Program) (w : World) (K : Frag) (mg : Str → Option Value) (base : Heap) (k : Nat) (f : Addr) (fd : FuncData) (ps : List Str) (sp : Sp) : Prop where
  run : ∀ (A : Around) (outer : List PySem.Env) (s : Shared) (H : Hp) (args : Args) (us : List Value) (vs : List V) (Q : VK) (E : XK), Room k A → Env0 P w K mg base A outer s H → BindsTo s fd args (ps.zip us) → Vals vs us → sp vs H Q E →
    codeAny (model P w) A (.call (.ref f) args) (CR (L2.CX P w) outer P w H s Q E) s
section
variable {X : Cx} {T : Tx} {k cn : Nat} {f : Addr} {fd : FuncData} {ps : List Str} {sp s2 : Sps} {f0 : FN}
structure InLoop (A A2 : Around) : Prop where
  un : A2.units = A.units + 2
  dp : A2.depth ≤ A.depth + 1
  fr : A2.frames = A.frames
  hd : A2.handled = A.handled
end
structure FnUV (P : Program) (w : World) (K : Frag) (mg : Str → Option Value) (base : Heap) (k : Nat) (f : Addr) (fd : FuncData) (ps : List Str) (sp : Sp) : Prop where
  run : ∀ (A : Around) (outer : List PySem.Env) (s : Shared) (H : Hp) (args : Args) (us : List Value) (vs : List V) (Q : VK) (E : XK) (p : Addr × PySem.Obj), RoomH k A → PinOk outer H s p → Env0 P w K mg base A outer s H → BindsTo s fd args (ps.zip us) → Vals vs us → sp vs H Q E →
    codeAny (model P w) A (.call (.ref f) args) (CR (L2.CX P w) outer P w H s Q E) s
section
variable {X : Cx} {T : Tx} {k cn : Nat} {f : Addr} {fd : FuncData} {ps : List Str} {sp : Sps} {p : Addr × PySem.Obj}
end

section
variable {X : Cx} {T : Tx} {W : WX} {cn : Nat} {sp so : Sps} {fn : FN} {re : RE} {e : Expr} {id : String} {x : Str} {p pos : Pos}
end
end Dc
set_option maxHeartbeats 2000000
namespace Dc
open PySem L2 PyProof.Rows PySem.W L2H LamX
def liftSIp (T : Tx) (W : WX) (cn : Nat) (pre : List V → List (Option V)) (t : RSI) : TS := fun Dn σ H => ∃ (c : Dx T) (B G : Hp) (ρ : Dc.Env) (st : List D → Prop) (xd : D → Prop) (a dx : Addr) (xs : List V) (acc : List D),
  Rel c σ B H ρ ∧ ρ[0]? = some (.sh (.adr a)) ∧ c.fb a ∧ c.fb dx ∧ dx ≠ a ∧ SlX.Slt c.H0 a (T.cl cn) dx (pre xs) ∧ Dens c B xs acc ∧ G a = none ∧ G dx = none ∧ ExP c G c.H0 ∧ t st acc (fun e _ => xd e) ρ ∧
  (∀ ds σ' B' H' xs', st ds → Ex B B' → ExP c G H' → Hold c B' H' → SlX.Slt H' a (T.cl cn) dx (xs'.map some) → Dens c B' xs' ds → Dn.nx σ' H') ∧
  (∀ e cls dd σ' B' H', xd e → Ex B B' → ExP c G H' → Hold c B' H' → XDen c B' cls dd e → W cls dd σ' H')
def iStG (fD : List D → D → List D) (te : RE) (b : RSI) : RSI := fun st acc x ρ => te x ρ fun d g ρ1 => frz (List.range ρ1.length) (leak d g ρ1) = ρ ∧ b st (fD acc d) x ρ
section
variable {T : Tx} {W : WX} {cn : Nat}
theorem lsi_stg {te : RE} {b : RSI} {f : Str} {p : Addr} {i n : Nat} {pre post : List V → List (Option V)} {fD : List D → D → List D} {fV : List V → V → List V} (hD : ∀ {c : Dx T} {B : Hp} {xs : List V} {acc : List D} {v : V} {d : D}, Dens c B xs acc → Den c B v d → Dens c B (fV xs v) (fD acc d)) (hp : ∀ (xs : List V) (v : V), xs.length = n → SlX.putS i v (pre xs) = post (fV xs v)) (cc : SlX.SCls T.K (T.cl cn)) (t : SlX.Slot1 T.K (T.cl cn) f p i) : ∀ D σ H, liftSIp T W cn pre (fun st acc x ρ => acc.length = n ∧ iStG fD te b st acc x ρ) D σ H →
    tSeq (SlX.sSl T.K (tVar 0) (liftE T W te) f) (liftSIp T W cn post b) D σ H := by
  rintro D σ H ⟨c, B, G, ρ, st, xd, a, dx, xs, acc, R, z0, fa, fd, ne, sl, dn, ga, gd, eg, ⟨hi, h⟩, q, qx⟩
  refine ⟨c, B, ρ, _, _, R, fun e ρ' cls dd σ' B' H' he eb R' xd => qx e cls dd σ' B' H' he eb (eg.trans R'.ent) R'.hold xd, h, fun d g ρ1 v B1 H1 h1 e1 k1 R1 t1 => ?_⟩
  obtain ⟨hρ, h1⟩ := h1
  obtain ⟨B2, e2, R2, n2⟩ := leak_ok R1 t1
  obtain ⟨B3, e3, R3⟩ := frz_ok (List.range ρ1.length) R2
  have ll : (leak d g ρ1).length = ρ1.length := by unfold leak; split <;> simp
  rw [hρ] at R3
  have no : ∀ (i : Nat) (d : Dc.D), ρ[i]? = some (Sl.own d) → False := fun i d z => by
    rw [← hρ, ← ll] at z
    exact frz_range_own z
  have l0 : 0 < σ.length := by rw [R.len]; exact (List.getElem?_eq_some_iff.mp z0).1
  obtain ⟨o0, ho0⟩ : ∃ o, σ[0]? = some o := ⟨σ[0], by simp [l0]⟩
  have v0 : σ[0]? = some (some (.ref a)) := by
    have s := R.sl 0 o0 _ ho0 z0
    cases s with
    | sh s => cases s with | adr => exact ho0
  have hs : SlX.Slt H1 a (T.cl cn) dx (pre xs) := R1.ent.slt sl (R.fb a fa).2.2 (R.fb dx fd).2.2
  refine ⟨.ref a, v0, a, T.cl cn, dx, p, pre xs, i, rfl, hs, cc, t, ?_⟩
  rw [hp xs v (by rw [dn.length]; exact hi)]
  have R4 := R3.store no (C := T.cl cn) (vs := post (fV xs v)) fa fd
  refine ⟨_, B3, G, ρ, st, xd, a, dx, fV xs v, fD acc d, R4, z0, fa, fd, ne, SlX.slH_slt ne, ?_, ga, gd, ?_, h1, fun ds σ' B' H' xs' a1 a2 a3 a4 a5 a6 => ?_, fun e cls dd σ' B' H' a1 a2 a3 a4 a5 => ?_⟩
  · exact Dens.ent _ _ (hD (dn.mono (e1.trans (e2.trans e3))) (n2.mono e3))
  · intro b o hn hb
    have n1 : b ≠ a := ne_of_none hb ga
    have n3 : b ≠ dx := ne_of_none hb gd
    show SlX.slH H1 a (T.cl cn) dx _ b = some o
    rw [SlX.slH_ne n1 n3]
    exact R1.ent b o hn (eg b o hn hb)
  · exact q ds σ' B' H' xs' a1 ((e1.trans (e2.trans e3)).trans a2) a3 ⟨a4.ex, a4.pail, a4.fb⟩ a5 (Dens.to (c := c.ent (SlX.slH H1 a (T.cl cn) dx (post (fV xs v))) c.fb) (c' := c) rfl a6)
  · exact qx e cls dd σ' B' H' a1 ((e1.trans (e2.trans e3)).trans a2) a3 ⟨a4.ex, a4.pail, a4.fb⟩ (XDen.to (c := c.ent (SlX.slH H1 a (T.cl cn) dx (post (fV xs v))) c.fb) (c' := c) rfl a5)

def iSt2 (ta tb : RE) : RSI := fun st acc x ρ => acc.length = 0 ∧ iStG (fun acc d => acc ++ [d]) ta (fun st acc x ρ => acc.length = 1 ∧ iStG (fun acc d => d :: acc) tb iEnd st acc x ρ) st acc x ρ
end
section
variable {X : Cx} {T : Tx} {W : WX}
theorem qsi_st2 {cn : Nat} {ra rb : RE} {e1 e2 : Expr} {f g x : Str} {p1 p2 : Addr} {op1 ap1 ps1 op2 ap2 ps2 : Pos} (cc : SlX.SCls T.K (T.cl cn)) (t1 : SlX.Slot1 T.K (T.cl cn) f p1 1) (t2 : SlX.Slot1 T.K (T.cl cn) g p2 0) (h1 : PE X e1 (liftE T W ra)) (h2 : PE X e2 (liftE T W rb)) (hK : X.K = T.K := by rfl) (hN : X.N[0]? = some x := by rfl)
    (hv : Vis X.env.scope x := by first | exact Or.inl rfl | exact Or.inr (Or.inl rfl) | exact Or.inr (Or.inr rfl)) (hd : (x == ("__debug__" : Str)) = false := by decide) (hcd : (x == ("__classdict__" : Str)) = false := by decide) (hs1 : swapsWith e1 (some (.Attribute (.Name x op1) f ap1)) ps1.line X.env = pure false := by rfl) (hs2 : swapsWith e2 (some (.Attribute (.Name x op2) g ap2)) ps2.line X.env = pure false := by rfl) :
    PSs X [.Assign [.Attribute (.Name x op1) f ap1] e1 ps1, .Assign [.Attribute (.Name x op2) g ap2] e2 ps2] (liftSI T W cn (iSt2 ra rb)) := by
  have a := SlX.ps_sl (pos := ps1) (f := f) (pe_var (X := X) (pos := op1) hN hv hd hcd) h1 hs1
  have b := SlX.ps_sl (pos := ps2) (f := g) (pe_var (X := X) (pos := op2) hN hv hd hcd) h2 hs2
  rw [hK] at a b
  have hB : PSs X [.Assign [.Attribute (.Name x op2) g ap2] e2 ps2] (liftSIp T W cn (fun xs => none :: xs.map some) (fun st acc x ρ => acc.length = 1 ∧ iStG (fun acc d => d :: acc) rb iEnd st acc x ρ)) :=
    (pss_cons b (qsi_end (T := T) (W := W) (cn := cn))).imp (lsi_stg (pre := fun xs => none :: xs.map some) (post := fun xs => xs.map some) (fV := fun xs v => v :: xs) (fun r n => .cons n r) (fun xs v h => by
      match xs, h with
      | [y], _ => rfl) cc t2)
  exact (pss_cons a hB).imp (lsi_stg (pre := fun xs => xs.map some) (post := fun xs => none :: xs.map some) (fV := fun xs v => xs ++ [v]) (fun r n => r.append (.cons n .nil)) (fun xs v h => by
      match xs, h with
      | [], _ => rfl) cc t1)
end
end Dc
set_option maxHeartbeats 1000000
namespace Dc
open PySem L2 PyProof.Rows PySem.W
def numS (i : Int) : Str := SX.S (TL.numL i.toNat)
theorem numS_eq {i : Int} (h : 0 ≤ i) : Str.ofString (toString i) = numS i := by
  obtain ⟨n, rfl⟩ := Int.eq_ofNat_of_zero_le h
  exact SX.num_S n
theorem numL_len32 {i : Int} (h : 0 ≤ i) (h2 : i < 10 ^ 32) : (TL.numL i.toNat).length ≤ 32 := TL.numL_len (by decide) (by omega)
theorem numS_len {i : Int} (h : 0 ≤ i) (h2 : i < 10 ^ 32) : (numS i).length ≤ 32 := by
  rw [numS, SX.S_len]; exact numL_len32 h h2
theorem log_small {i : Int} (h : i.natAbs < 2 ^ 1000) : i.natAbs.log2 < 1920 := by
  by_cases h0 : i.natAbs = 0
  · rw [h0]; decide
  · have := (Nat.log2_lt h0).mpr h
    omega
theorem log_ok {i : Int} (h : 0 ≤ i) (h2 : i < 10 ^ 70) : i.natAbs.log2 < 1920 := log_small (by
  have h3 : i.natAbs < 10 ^ 70 := by omega
  exact Nat.lt_trans h3 (by decide +kernel))
theorem small_line {n : Nat} (h : n ≤ 1000000) : n ≤ sizeLine := Nat.le_trans h (by decide)

def pD (p : Int × Int) : D := .tup [.int p.1, .int p.2]
def kD (l : List (Int × Int)) : D := .tup (l.map pD)
def KindOk (p : Int × Int) : Prop := 0 ≤ p.1 ∧ p.1 ≤ 10 ^ 31 ∧ 1 ≤ p.2 ∧ p.2 ≤ 10 ^ 30
structure GoodK (l : List (Int × Int)) : Prop where
  ne : l ≠ []
  len : l.length ≤ 10
  ok : ∀ p ∈ l, KindOk p
  desc : l.Pairwise fun p q => q.1 < p.1
end Dc
set_option maxHeartbeats 1000000
namespace Dc
open PySem L2 PyProof.Rows PySem.W
mutual
def tame : D → Bool
  | .non => true
  | .bl _ => true
  | .int i => decide (i.natAbs.log2 < 1920)
  | .str x => PyData.strOk x
  | .tup xs => tames xs
  | .lst xs => tames xs
  | _ => false
def tames : List D → Bool
  | [] => true
  | x :: xs => tame x && tames xs
end
mutual
def shW : D → Nat
  | .int _ => 1921
  | .str x => 10 * x.length + 2
  | .tup xs => shWs xs + 3
  | .lst xs => shWs xs + 3
  | _ => 5
def shWs : List D → Nat
  | [] => 0
  | x :: xs => shW x + 2 + shWs xs
end
mutual
def dep : D → Nat
  | .tup xs => deps xs + 1
  | .lst xs => deps xs + 1
  | _ => 0
def deps : List D → Nat
  | [] => 0
  | x :: xs => max (dep x) (deps xs)
end
mutual
theorem tame_flat : ∀ {d : D}, tame d = true → flat d = true
  | .non, _ => rfl
  | .bl _, _ => rfl
  | .int _, _ => rfl
  | .str _, _ => rfl
  | .tup xs, h => tames_flat (show tames xs = true from h)
  | .lst xs, h => tames_flat (show tames xs = true from h)
  | .dic _, h => Bool.noConfusion (show false = true from h)
  | .obj _ _, h => Bool.noConfusion (show false = true from h)
  | .ptr, h => Bool.noConfusion (show false = true from h)
  | .clo _ _, h => Bool.noConfusion (show false = true from h)
  | .exc _ _, h => Bool.noConfusion (show false = true from h)
  | .adr _, h => Bool.noConfusion (show false = true from h)
  | .scr _, h => Bool.noConfusion (show false = true from h)
  | .tpz _, h => Bool.noConfusion (show false = true from h)
theorem tames_flat : ∀ {ds : List D}, tames ds = true → flats ds = true
  | [], _ => rfl
  | x :: xs, h => by
    have h : (tame x && tames xs) = true := h
    rw [Bool.and_eq_true] at h
    show (flat x && flats xs) = true
    rw [tame_flat h.1, tames_flat h.2]; rfl
end
mutual
theorem tame_lay : ∀ {d : D}, tame d = true → (py d).canLay0 = true
  | .non, _ => rfl
  | .bl _, _ => rfl
  | .int _, _ => rfl
  | .str _, h => h
  | .tup xs, h => tames_lay (show tames xs = true from h)
  | .lst xs, h => tames_lay (show tames xs = true from h)
  | .dic _, h => Bool.noConfusion (show false = true from h)
  | .obj _ _, h => Bool.noConfusion (show false = true from h)
  | .ptr, h => Bool.noConfusion (show false = true from h)
  | .clo _ _, h => Bool.noConfusion (show false = true from h)
  | .exc _ _, h => Bool.noConfusion (show false = true from h)
  | .adr _, h => Bool.noConfusion (show false = true from h)
  | .scr _, h => Bool.noConfusion (show false = true from h)
  | .tpz _, h => Bool.noConfusion (show false = true from h)
theorem tames_lay : ∀ {ds : List D}, tames ds = true → PyData.canLayAll0 (pys ds) = true
  | [], _ => rfl
  | x :: xs, h => by
    have h : (tame x && tames xs) = true := h
    rw [Bool.and_eq_true] at h
    show ((py x).canLay0 && PyData.canLayAll0 (pys xs)) = true
    rw [tame_lay h.1, tames_lay h.2]; rfl
end
mutual
theorem tame_show : ∀ {d : D}, tame d = true → (py d).showable = true
  | .non, _ => rfl
  | .bl _, _ => rfl
  | .int _, h => h
  | .str _, _ => rfl
  | .tup xs, h => tames_show (show tames xs = true from h)
  | .lst xs, h => tames_show (show tames xs = true from h)
  | .dic _, h => Bool.noConfusion (show false = true from h)
  | .obj _ _, h => Bool.noConfusion (show false = true from h)
  | .ptr, h => Bool.noConfusion (show false = true from h)
  | .clo _ _, h => Bool.noConfusion (show false = true from h)
  | .exc _ _, h => Bool.noConfusion (show false = true from h)
  | .adr _, h => Bool.noConfusion (show false = true from h)
  | .scr _, h => Bool.noConfusion (show false = true from h)
  | .tpz _, h => Bool.noConfusion (show false = true from h)
theorem tames_show : ∀ {ds : List D}, tames ds = true → PyData.showableAll (pys ds) = true
  | [], _ => rfl
  | x :: xs, h => by
    have h : (tame x && tames xs) = true := h
    rw [Bool.and_eq_true] at h
    show ((py x).showable && PyData.showableAll (pys xs)) = true
    rw [tame_show h.1, tames_show h.2]; rfl
end
theorem listText_len : ∀ ts : List Str, (listText ts).length ≤ piled ts + 3
  | [] => by decide
  | t :: ts => by
    unfold listText
    rw [strLen_append]
    have e0 : ((("]" : String) : Str)).length = 1 := rfl
    have e1 : ((("[" : String) : Str)).length = 1 := rfl
    show (textFrom 1 (("[" : String) ++ (if 0 > 0 then ", " else "" : String) ++ t) ts).length + _ ≤ _
    rw [textFrom_length_pos ts 1 _ (by decide), strLen_append, strLen_append, e0, e1, piled_cons]
    have e2 : (((if 0 > 0 then ", " else "" : String) : Str)).length = 0 := rfl
    rw [e2]; omega
theorem tupleText_len (ts : List Str) : (tupleText ts).length ≤ piled ts + 3 := by
  unfold tupleText
  rw [strLen_append, strLen_append]
  have e1 : ((("(" : String) : Str)).length = 1 := rfl
  have e3 : (((if ts.length == 1 then ",)" else ")" : String) : Str)).length ≤ 2 := by split <;> decide
  rw [e1]
  by_cases h : ts = []
  · subst h
    decide
  · have := join_length_add ts h
    omega
mutual
theorem shW_ok : ∀ {d : D}, tame d = true → (shD d).length ≤ shW d
  | .non, _ => by decide
  | .bl true, _ => by decide
  | .bl false, _ => by decide
  | .int i, h => int_text_len_1921 (of_decide_eq_true h)
  | .str x, h => by
    refine StrLaws.reprText_len x fun c hc => ?_
    have h : x.cps.all (· < 0x110000) = true := h
    rw [← Array.all_toList] at h
    have := of_decide_eq_true (List.all_eq_true.mp h c hc)
    exact Nat.lt_trans this (by decide)
  | .tup xs, h => by
    have := shWs_ok (show tames xs = true from h)
    have := tupleText_len (PyData.shownAll (pys xs))
    show (tupleText (PyData.shownAll (pys xs))).length ≤ shWs xs + 3
    omega
  | .lst xs, h => by
    have := shWs_ok (show tames xs = true from h)
    have := listText_len (PyData.shownAll (pys xs))
    show (listText (PyData.shownAll (pys xs))).length ≤ shWs xs + 3
    omega
  | .dic _, h => Bool.noConfusion (show false = true from h)
  | .obj _ _, h => Bool.noConfusion (show false = true from h)
  | .ptr, h => Bool.noConfusion (show false = true from h)
  | .clo _ _, h => Bool.noConfusion (show false = true from h)
  | .exc _ _, h => Bool.noConfusion (show false = true from h)
  | .adr _, h => Bool.noConfusion (show false = true from h)
  | .scr _, h => Bool.noConfusion (show false = true from h)
  | .tpz _, h => Bool.noConfusion (show false = true from h)
theorem shWs_ok : ∀ {ds : List D}, tames ds = true → piled (PyData.shownAll (pys ds)) ≤ shWs ds
  | [], _ => Nat.le_refl 0
  | x :: xs, h => by
    have h : (tame x && tames xs) = true := h
    rw [Bool.and_eq_true] at h
    have h1 : (py x).shown.length ≤ shW x := shW_ok h.1
    have h2 := shWs_ok h.2
    show piled ((py x).shown :: PyData.shownAll (pys xs)) ≤ shW x + 2 + shWs xs
    rw [piled_cons]; omega
end
mutual
theorem dep_ok : ∀ d : D, (py d).depth ≤ dep d
  | .non => Nat.le_refl _
  | .bl _ => Nat.le_refl _
  | .int _ => Nat.le_refl _
  | .str _ => Nat.le_refl _
  | .tup xs => by
    have := deps_ok xs
    show PyData.depthAll (pys xs) + 1 ≤ deps xs + 1
    omega
  | .lst xs => by
    have := deps_ok xs
    show PyData.depthAll (pys xs) + 1 ≤ deps xs + 1
    omega
  | .dic _ => Nat.le_refl _
  | .obj _ _ => Nat.le_refl _
  | .ptr => Nat.le_refl _
  | .clo _ _ => Nat.le_refl _
  | .exc _ _ => Nat.le_refl _
  | .adr _ => Nat.le_refl _
  | .scr _ => Nat.le_refl _
  | .tpz _ => Nat.le_refl _
theorem deps_ok : ∀ ds : List D, PyData.depthAll (pys ds) ≤ deps ds
  | [] => Nat.le_refl _
  | x :: xs => by
    have h1 := dep_ok x
    have h2 := deps_ok xs
    show max (py x).depth (PyData.depthAll (pys xs)) ≤ max (dep x) (deps xs)
    omega
end
theorem okEq_of {d : D} (h : tame d = true) (h2 : dep d ≤ 60) : okEq d := by
  refine ⟨tame_flat h, ?_⟩
  unfold SeqAt.shaped
  rw [tame_lay h, decide_eq_true (Nat.le_trans (dep_ok d) (by omega))]; rfl
theorem okSh_of {d : D} (h : tame d = true) (h2 : dep d ≤ 60) (h3 : shW d ≤ sizeLine) : okSh d := ⟨tame_flat h, tame_show h, Nat.le_trans (shW_ok h) h3, Nat.le_trans (dep_ok d) h2⟩
theorem tames_all {ds : List D} (h : ∀ d ∈ ds, tame d = true) : tames ds = true := by
  induction ds with
  | nil => rfl
  | cons x xs ih =>
    show (tame x && tames xs) = true
    rw [h x (by simp), ih fun d hd => h d (List.mem_cons_of_mem _ hd)]; rfl
theorem deps_all {n : Nat} {ds : List D} (h : ∀ d ∈ ds, dep d ≤ n) : deps ds ≤ n := by
  induction ds with
  | nil => exact Nat.zero_le _
  | cons x xs ih =>
    have := ih fun d hd => h d (List.mem_cons_of_mem _ hd)
    have := h x (by simp)
    show max (dep x) (deps xs) ≤ n
    omega
theorem shWs_all {n : Nat} {ds : List D} (h : ∀ d ∈ ds, shW d ≤ n) : shWs ds ≤ ds.length * (n + 2) := by
  induction ds with
  | nil => exact Nat.zero_le _
  | cons x xs ih =>
    have := ih fun d hd => h d (List.mem_cons_of_mem _ hd)
    have := h x (by simp)
    show shW x + 2 + shWs xs ≤ (xs.length + 1) * (n + 2)
    rw [Nat.succ_mul]; omega
@[simp] theorem tame_i {i : Int} : tame (.int i) = decide (i.natAbs.log2 < 1920) := rfl
@[simp] theorem tame_s {x : Str} : tame (.str x) = PyData.strOk x := rfl
@[simp] theorem tame_t {xs : List D} : tame (.tup xs) = tames xs := rfl
@[simp] theorem tame_l {xs : List D} : tame (.lst xs) = tames xs := rfl
@[simp] theorem tame_n : tame .non = true := rfl
@[simp] theorem tame_b {b : Bool} : tame (.bl b) = true := rfl
@[simp] theorem tames_n : tames [] = true := rfl
@[simp] theorem tames_c {x : D} {xs : List D} : tames (x :: xs) = (tame x && tames xs) := rfl
@[simp] theorem shW_i {i : Int} : shW (.int i) = 1921 := rfl
@[simp] theorem shW_s {x : Str} : shW (.str x) = 10 * x.length + 2 := rfl
@[simp] theorem shW_t {xs : List D} : shW (.tup xs) = shWs xs + 3 := rfl
@[simp] theorem shW_l {xs : List D} : shW (.lst xs) = shWs xs + 3 := rfl
@[simp] theorem shW_n : shW .non = 5 := rfl
@[simp] theorem shW_b {b : Bool} : shW (.bl b) = 5 := rfl
@[simp] theorem shWs_n : shWs [] = 0 := rfl
@[simp] theorem shWs_c {x : D} {xs : List D} : shWs (x :: xs) = shW x + 2 + shWs xs := rfl
@[simp] theorem dep_i {i : Int} : dep (.int i) = 0 := rfl
@[simp] theorem dep_s {x : Str} : dep (.str x) = 0 := rfl
@[simp] theorem dep_t {xs : List D} : dep (.tup xs) = deps xs + 1 := rfl
@[simp] theorem dep_l {xs : List D} : dep (.lst xs) = deps xs + 1 := rfl
@[simp] theorem dep_n : dep .non = 0 := rfl
@[simp] theorem dep_b {b : Bool} : dep (.bl b) = 0 := rfl
@[simp] theorem deps_n : deps [] = 0 := rfl
@[simp] theorem deps_c {x : D} {xs : List D} : deps (x :: xs) = max (dep x) (deps xs) := rfl
theorem log_kind {p : Int × Int} (h : KindOk p) : p.1.natAbs.log2 < 1920 ∧ p.2.natAbs.log2 < 1920 := by
  obtain ⟨h1, h2, h3, h4⟩ := h
  exact ⟨log_ok h1 (by omega), log_ok (by omega) (by omega)⟩
theorem tame_p {p : Int × Int} (h : KindOk p) : tame (pD p) = true := by
  have := log_kind h
  simp [pD, this.1, this.2]
theorem tame_kD {l : List (Int × Int)} (h : ∀ p ∈ l, KindOk p) : tame (kD l) = true := tames_all fun d hd => by
  obtain ⟨p, hp, rfl⟩ := List.mem_map.mp hd
  exact tame_p (h p hp)
theorem dep_kD (l : List (Int × Int)) : dep (kD l) ≤ 2 := by
  have : deps (l.map pD) ≤ 1 := deps_all fun d hd => by
    obtain ⟨p, hp, rfl⟩ := List.mem_map.mp hd
    exact Nat.le_refl _
  show deps (l.map pD) + 1 ≤ 2
  omega
theorem okEq_kD {l : List (Int × Int)} (h : ∀ p ∈ l, KindOk p) : okEq (kD l) := okEq_of (tame_kD h) (Nat.le_trans (dep_kD l) (by decide))
theorem okEq_i {i : Int} : okEq (.int i) := ⟨rfl, rfl⟩
theorem okEq_s {x : Str} (h : PyData.strOk x = true) : okEq (.str x) := okEq_of h (Nat.zero_le _)
@[simp] theorem eqD_i {i j : Int} : eqD (.int i) (.int j) = (i == j) := rfl
@[simp] theorem eqD_s {x y : Str} : eqD (.str x) (.str y) = (x == y) := rfl
@[simp] theorem eqD_nn : eqD .non .non = true := rfl
@[simp] theorem eqD_ni {i : Int} : eqD .non (.int i) = false := rfl
@[simp] theorem eqD_in {i : Int} : eqD (.int i) .non = false := rfl
@[simp] theorem eqD_tn {xs : List D} : eqD (.tup xs) .non = false := rfl

theorem lcL_map {α : Type} {own : List Nat} {ρ : Env} {g : RG} {te : RE} {k : List D → Prop} (h f : α → D) : ∀ {l : List α} {acc : List D}, (∀ a ∈ l, ∀ R : D → Prop, R (f a) → g (h a) ρ fun ρ1 => te noX ρ1 fun e ge ρ3 => wipeE (leak e ge ρ3) own = ρ ∧ R e) → k (acc ++ l.map f) → lcL own ρ g dYes te (l.map h) acc k
  | [], acc, _, hk => by
    show k acc
    simpa using hk
  | a :: l, acc, hs, hk => by
    show g (h a) ρ fun ρ1 => te noX ρ1 fun e ge ρ3 => wipeE (leak e ge ρ3) own = ρ ∧ lcL own ρ g dYes te (l.map h) (acc ++ [e]) k
    refine hs a (by simp) _ (lcL_map h f (fun d hd => hs d (List.mem_cons_of_mem _ hd)) ?_)
    simpa using hk
def NO (s : Sl) : Prop := s = .no ∨ ∃ d, s = .sh d
theorem NO.no : NO .no := .inl rfl
theorem NO.sh {d : D} : NO (.sh d) := .inr ⟨d, rfl⟩
theorem loop_inv {g : RG} {tb : RS} {k : Kd} (I : Nat → Env → Prop) : ∀ {ds : List D} {ρ : Env} {n : Nat}, I n ρ → (∀ d ∈ ds, ∀ (i : Nat) (ρ : Env) (K : Env → Prop), i < n + ds.length → I i ρ → (∀ ρ', I (i + 1) ρ' → K ρ') → g d ρ fun ρ1 => tb { k with nx := K, ct := K, bk := k.nx } ρ1) → (∀ ρ, I (n + ds.length) ρ → k.nx ρ) → dLoop g tb k ds ρ
  | [], ρ, n, h, _, hk => hk ρ h
  | d :: ds, ρ, n, h, hs, hk => by
    show g d ρ fun ρ1 => tb { k with nx := dLoop g tb k ds, ct := dLoop g tb k ds, bk := k.nx } ρ1
    have e : n + 1 + ds.length = n + (d :: ds).length := by simp only [List.length_cons]; omega
    refine hs d (by simp) n ρ _ (by simp only [List.length_cons]; omega) h fun ρ' h' => loop_inv I h' (fun d hd i ρ K hi => hs d (List.mem_cons_of_mem _ hd) i ρ K (by rw [← e]; exact hi)) fun ρ'' h'' => hk ρ'' ?_
    rw [← e]; exact h''
end Dc
set_option maxHeartbeats 1000000
namespace Dc
open PySem L2 PyProof.Rows PySem.W
section
variable {a b c d : D} {r xs : List D} {k : D → Tag → Prop} {i j : Int} {x y : Str} {g : Bool → Bool}
theorem atI_get {α : Type} {xs : List α} {i : Nat} : atI xs (i : Int) = xs[i]? := by
  unfold atI ixN
  rw [if_pos (Int.natCast_nonneg i)]
  by_cases h : i < xs.length
  · rw [if_pos (by omega)]; rfl
  · rw [if_neg (by omega), List.getElem?_eq_none (by omega)]; rfl
theorem atI0 {α : Type} {a : α} {r : List α} : atI (a :: r) 0 = some a := atI_get (i := 0)
theorem atI1 {α : Type} {a b : α} {r : List α} : atI (a :: b :: r) 1 = some b := atI_get (i := 1)
theorem atI2 {α : Type} {a b c : α} {r : List α} : atI (a :: b :: c :: r) 2 = some c := atI_get (i := 2)
theorem ex_eq {α : Type} {o : Option α} {z : α} {p : α → Prop} (h : o = some z) : (∃ d, o = some d ∧ p d) = p z := by
  subst h
  exact propext ⟨fun ⟨d, e, q⟩ => by cases e; exact q, fun q => ⟨_, rfl, q⟩⟩
@[simp] theorem v_ixt0 : fIxA (.tup (a :: r)) (.int 0) k = k a .p := ex_eq atI0
@[simp] theorem v_ixt1 : fIxA (.tup (a :: b :: r)) (.int 1) k = k b .p := ex_eq atI1
@[simp] theorem v_ixt2 : fIxA (.tup (a :: b :: c :: r)) (.int 2) k = k c .p := ex_eq atI2
@[simp] theorem v_ixl0 : fIxA (.lst (a :: r)) (.int 0) k = k a .p := ex_eq atI0
@[simp] theorem v_ixl1 : fIxA (.lst (a :: b :: r)) (.int 1) k = k b .p := ex_eq atI1
@[simp] theorem v_ixl2 : fIxA (.lst (a :: b :: c :: r)) (.int 2) k = k c .p := ex_eq atI2
theorem v_ixt (h : atI xs i = some d) : fIxA (.tup xs) (.int i) k = k d .p := ex_eq h
theorem v_ixl (h : atI xs i = some d) : fIxA (.lst xs) (.int i) k = k d .p := ex_eq h
@[simp] theorem v_ord {p : Int → Int → Bool} : fOrd p (.int i) (.int j) k = k (.bl (p i j)) .p := rfl
@[simp] theorem v_is : fIsN g a .non k = k (.bl (g (isNonD a))) .p := propext ⟨fun h => h.2, fun h => ⟨rfl, h⟩⟩
@[simp] theorem v_eqi : fEq (.int i) (.int j) k = k (.bl (i == j)) .p := propext ⟨fun h => h.2.2, fun h => ⟨okEq_i, okEq_i, h⟩⟩
@[simp] theorem v_nei : fNe (.int i) (.int j) k = k (.bl (!(i == j))) .p := propext ⟨fun h => h.2.2, fun h => ⟨okEq_i, okEq_i, h⟩⟩
theorem v_eqs (h1 : PyData.strOk x = true) (h2 : PyData.strOk y = true) : fEq (.str x) (.str y) k = k (.bl (x == y)) .p := propext ⟨fun h => h.2.2, fun h => ⟨okEq_s h1, okEq_s h2, h⟩⟩
theorem v_nes (h1 : PyData.strOk x = true) (h2 : PyData.strOk y = true) : fNe (.str x) (.str y) k = k (.bl (!(x == y))) .p := propext ⟨fun h => h.2.2, fun h => ⟨okEq_s h1, okEq_s h2, h⟩⟩
@[simp] theorem v_addi : fAdd (.int i) (.int j) k = k (.int (i + j)) .p := rfl
@[simp] theorem v_subi : fSub (.int i) (.int j) k = k (.int (i - j)) .p := rfl
@[simp] theorem v_negi {k : D → Tag → Prop} : fNeg (.int i) k = k (.int (-i)) .p := rfl
@[simp] theorem v_lenl : fLen [.lst xs] k = k (.int xs.length) .p := rfl
@[simp] theorem v_lent : fLen [.tup xs] k = k (.int xs.length) .p := rfl
@[simp] theorem v_lens : fLen [.str x] k = (x.length ≤ sizeLine ∧ k (.int x.length) .p) := rfl
@[simp] theorem v_tupl : fTuple [.lst xs] k = k (.tup xs) .p := rfl
@[simp] theorem v_truth_b {b : Bool} {q : Bool → Prop} : truth (.bl b) q = q b := rfl
@[simp] theorem v_split {q : D → Tag → Prop} : mSplit (.str x) [.str y] q = ((y.length == 0) = false ∧ x.length + 2 ≤ sizeLine ∧ q (.lst ((Txt.split x y).map D.str)) .f) := rfl
@[simp] theorem v_nonN : isNonD .non = true := rfl
@[simp] theorem v_nonT : isNonD (.tup xs) = false := rfl
@[simp] theorem v_nonI : isNonD (.int i) = false := rfl
@[simp] theorem v_nonO {n : Nat} : isNonD (.obj n xs) = false := rfl
@[simp] theorem v_strD : isStrD (.str x) = True := rfl
@[simp] theorem v_mul (h : IntMulOk i j) : fMul (.int i) (.int j) k = k (.int (i * j)) .p := propext ⟨fun h => h.2, fun q => ⟨h, q⟩⟩
end
theorem v_pow {i : Int} {n : Nat} {k : D → Tag → Prop} (h : n ≤ 1000000) (hi : i.natAbs < 2 ^ 64) : fPow (.int i) (.int (n : Int)) k = k (.int (i ^ n)) .p :=
  propext ⟨fun h => h.2.2.2, fun q => ⟨Int.natCast_nonneg n, by omega, hi, q⟩⟩
@[simp] theorem v_p31 {k : D → Tag → Prop} : fPow (.int 10) (.int 31) k = k (.int (10 ^ 31)) .p := v_pow (n := 31) (by decide) (by decide)
@[simp] theorem v_p30 {k : D → Tag → Prop} : fPow (.int 10) (.int 30) k = k (.int (10 ^ 30)) .p := v_pow (n := 30) (by decide) (by decide)
@[simp] theorem v_p18 {k : D → Tag → Prop} : fPow (.int 10) (.int 18) k = k (.int (10 ^ 18)) .p := v_pow (n := 18) (by decide) (by decide)
section
variable {x : XQ} {ρ : Env} {k : Kd} {ta : RE} {tr : RAt} {js : List Nat} {QL : List (D × Tag) → Env → Prop}
@[simp] theorem ody : sPar js tr k ρ = tr k.ex ρ fun l ρ1 => l.length = js.length ∧ k.nx (setD js l ρ1) := rfl
end
end Dc
set_option maxHeartbeats 1000000
namespace Dc
open PySem L2 PyProof.Rows PySem.W
def GS (x : Str) : Prop := ∀ c ∈ x.cps.toList, c < 0x110000
theorem gs_ok {x : Str} (h : GS x) : PyData.strOk x = true := by
  show x.cps.all (· < 0x110000) = true
  rw [← Array.all_toList]
  exact List.all_eq_true.mpr fun c hc => decide_eq_true (h c hc)
theorem gs_of {x : Str} (h : PyData.strOk x = true) : GS x := fun c hc => by
  have h : x.cps.all (· < 0x110000) = true := h
  rw [← Array.all_toList] at h
  exact of_decide_eq_true (List.all_eq_true.mp h c hc)
theorem char_lt (c : Char) : c.toNat < 0x110000 := by
  have := c.valid
  have h : c.toNat.isValidChar := this
  rcases h with h | ⟨_, h⟩
  · exact Nat.lt_trans h (by decide)
  · exact h
theorem gs_app {x y : Str} (a : GS x) (b : GS y) : GS (x ++ y) := fun c hc => by
  rw [show (x ++ y).cps.toList = x.cps.toList ++ y.cps.toList from TL.tl_append x y] at hc
  rcases List.mem_append.mp hc with hc | hc
  · exact a c hc
  · exact b c hc
theorem gs_str (s : String) : GS (Str.ofString s) := fun c hc => by
  rw [show (Str.ofString s).cps.toList = s.toList.map Char.toNat from TL.tl_ofString s] at hc
  obtain ⟨z, _, rfl⟩ := List.mem_map.mp hc
  exact char_lt z
theorem hex_ok {w c : Nat} : ∀ z ∈ (List.replicate w 48 ++ (Nat.toDigits 16 c).map Char.toNat), z < 0x110000 := fun z hz => by
  rcases List.mem_append.mp hz with hz | hz
  · rw [(List.mem_replicate.mp hz).2]; decide
  · obtain ⟨k, _, rfl⟩ := List.mem_map.mp hz
    exact char_lt k
theorem rch_ok {q c : Nat} (hc : c < 0x110000) : ∀ z ∈ Builtin.Str.reprChar q c, z < 0x110000 := by
  unfold Builtin.Str.reprChar
  dsimp only
  repeat' split
  all_goals intro z hz
  all_goals simp only [List.cons_append, List.nil_append, List.mem_cons, List.not_mem_nil, or_false] at hz
  · rcases hz with rfl | rfl
    · decide
    · exact hc
  · rcases hz with rfl | rfl <;> decide
  · rcases hz with rfl | rfl <;> decide
  · rcases hz with rfl | rfl <;> decide
  · subst hz; exact hc
  · rcases hz with rfl | rfl | hz
    · decide
    · decide
    · exact hex_ok z hz
  · rcases hz with rfl | rfl | hz
    · decide
    · decide
    · exact hex_ok z hz
  · rcases hz with rfl | rfl | hz
    · decide
    · decide
    · exact hex_ok z hz
theorem fold_ok (q : Nat) : ∀ (l : List Nat) (acc : Array Nat), (∀ c ∈ l, c < 0x110000) → (∀ c ∈ acc.toList, c < 0x110000) → ∀ c ∈ (l.foldl (fun out c => out ++ (Builtin.Str.reprChar q c).toArray) acc).toList, c < 0x110000
  | [], _, _, h => h
  | c :: r, acc, hl, h => by
    refine fold_ok q r _ (fun d hd => hl d (List.mem_cons_of_mem _ hd)) fun d hd => ?_
    rw [Array.toList_append] at hd
    rcases List.mem_append.mp hd with hd | hd
    · exact h d hd
    · exact rch_ok (hl c (List.mem_cons_self ..)) d (by simpa using hd)
theorem gs_repr {x : Str} (h : GS x) : GS (reprText x) := by
  have hq : reprQuote x < 0x110000 := by
    unfold reprQuote
    split <;> decide
  show ∀ c ∈ ((x.cps.foldl (fun out c => out ++ (Builtin.Str.reprChar (reprQuote x) c).toArray) #[reprQuote x]).push (reprQuote x)).toList, c < 0x110000
  intro c hc
  rw [Array.toList_push, ← Array.foldl_toList] at hc
  rcases List.mem_append.mp hc with hc | hc
  · exact fold_ok _ _ _ h (fun d hd => by have e : d = reprQuote x := (by simpa using hd); subst e; exact hq) c hc
  · rw [List.mem_singleton.mp hc]; exact hq
theorem gs_from : ∀ (ts : List Str) (k : Nat) (acc : Str), (∀ t ∈ ts, GS t) → GS acc → GS (textFrom k acc ts)
  | [], _, _, _, h => h
  | t :: ts, k, acc, hs, h => gs_from ts (k + 1) _ (fun u hu => hs u (List.mem_cons_of_mem _ hu)) (gs_app (gs_app h (gs_str _)) (hs t (List.mem_cons_self ..)))
theorem gs_list {ts : List Str} (h : ∀ t ∈ ts, GS t) : GS (listText ts) := gs_app (gs_from ts 0 _ h (gs_str "[")) (gs_str "]")
theorem gs_join : ∀ {ts : List Str}, (∀ t ∈ ts, GS t) → GS (Str.join ", " ts)
  | [], _ => fun c hc => by cases hc
  | [x], h => h x (List.mem_cons_self ..)
  | x :: y :: r, h => gs_app (gs_app (h x (List.mem_cons_self ..)) (gs_str ", ")) (gs_join fun t ht => h t (List.mem_cons_of_mem _ ht))
theorem gs_tuple {ts : List Str} (h : ∀ t ∈ ts, GS t) : GS (tupleText ts) := gs_app (gs_app (gs_str "(") (gs_join h)) (gs_str _)
mutual
theorem gs_sh : ∀ {d : D}, tame d = true → GS (shD d)
  | .non, _ => gs_str "None"
  | .bl true, _ => gs_str "True"
  | .bl false, _ => gs_str "False"
  | .int i, _ => gs_str (toString i)
  | .str x, h => gs_repr (gs_of h)
  | .tup xs, h => gs_tuple (gs_shs (show tames xs = true from h))
  | .lst xs, h => gs_list (gs_shs (show tames xs = true from h))
  | .dic _, h => Bool.noConfusion (show false = true from h)
  | .obj _ _, h => Bool.noConfusion (show false = true from h)
  | .ptr, h => Bool.noConfusion (show false = true from h)
  | .clo _ _, h => Bool.noConfusion (show false = true from h)
  | .exc _ _, h => Bool.noConfusion (show false = true from h)
  | .adr _, h => Bool.noConfusion (show false = true from h)
  | .scr _, h => Bool.noConfusion (show false = true from h)
  | .tpz _, h => Bool.noConfusion (show false = true from h)
theorem gs_shs : ∀ {ds : List D}, tames ds = true → ∀ t ∈ PyData.shownAll (pys ds), GS t
  | [], _ => fun t ht => by cases ht
  | x :: xs, h => by
    have h : (tame x && tames xs) = true := h
    rw [Bool.and_eq_true] at h
    intro t ht
    have ht : t ∈ (py x).shown :: PyData.shownAll (pys xs) := ht
    rcases List.mem_cons.mp ht with rfl | ht
    · exact gs_sh h.1
    · exact gs_shs h.2 t ht
end
theorem strOk_sh {d : D} (h : tame d = true) : PyData.strOk (shD d) = true := gs_ok (gs_sh h)
theorem v_repr {d : D} {k : D → Tag → Prop} (h : tame d = true) (h2 : dep d ≤ 60) (h3 : shW d ≤ sizeLine) : fRepr [d] k = k (.str (shD d)) .p := by
  have o := okSh_of h h2 h3
  cases d <;> first | exact Bool.noConfusion (show false = true from h) | exact propext ⟨fun q => q.2, fun q => ⟨o, q⟩⟩
theorem cut_mem {xs : List D} {lo hi : Option Int} {d : D} (h : d ∈ cutD xs lo hi) : d ∈ xs := List.mem_of_mem_drop (List.mem_of_mem_take h)
theorem v_ixs {ns : List Int} {i n : Int} {k : D → Tag → Prop} (h : atI ns i = some n) : fIxA (.scr ns) (.int i) k = k (.int n) .p := ex_eq h
@[simp] theorem v_slices {ns : List Int} {lo hi : Option Int} {k : D → Tag → Prop} : fSlice (.scr ns) lo hi k = k (.lst (cutD (ns.map D.int) lo hi)) .f := rfl
@[simp] theorem v_inti {i : Int} {k : D → Tag → Prop} : fInt [.int i] k = k (.int i) .p := rfl
theorem v_modi {i j : Int} {k : D → Tag → Prop} (h : 0 < j) : fMod (.int i) (.int j) k = k (.int (i % j)) .p := propext ⟨fun q => q.2, fun q => ⟨h, q⟩⟩
@[simp] theorem v_lensc {ns : List Int} {k : D → Tag → Prop} : fLen [.scr ns] k = k (.int ns.length) .p := rfl
end Dc
set_option maxHeartbeats 1000000
namespace Dc
open PySem L2 PyProof.Rows PySem.W
def lookT : List (Int × Int) → Int → Option Int
  | [], _ => none
  | q :: r, d => if q.1 = d then some q.2 else lookT r d
theorem lookT_cons (q : Int × Int) (r : List (Int × Int)) (d : Int) : lookT (q :: r) d = if q.1 = d then some q.2 else lookT r d := rfl
def dicT (t : List (Int × Int)) : List (L2.Key × D) := t.map fun p => (.inl p.1, .int p.2)
theorem anyT : ∀ (t : List (Int × Int)) (d : Int), ((dicT t).any fun kv => decide (kv.1 = .inl d)) = (lookT t d).isSome
  | [], _ => rfl
  | q :: r, d => by
    have ih := anyT r d
    unfold dicT at ih ⊢
    rw [List.map_cons, List.any_cons, ih]
    rw [lookT_cons]
    by_cases h : q.1 = d
    · simp [h]
    · have : decide ((Sum.inl q.1 : L2.Key) = Sum.inl d) = false := decide_eq_false fun e => h (Sum.inl.inj e)
      simp [this, h]
structure Keyed (t : List (Int × Int)) : Prop where
  nd : (t.map (·.1)).Nodup
theorem lookT_none {t : List (Int × Int)} {d : Int} : lookT t d = none ↔ d ∉ t.map (·.1) := by
  induction t with
  | nil => simp [lookT]
  | cons q r ih =>
    unfold lookT
    by_cases h : q.1 = d
    · simp [h]
    · have h' : ¬ d = q.1 := fun e => h e.symm
      simp [h, ih, h']
def setT : List (Int × Int) → Int → Int → List (Int × Int)
  | [], d, v => [(d, v)]
  | q :: r, d, v => if q.1 = d then (q.1, v) :: r else q :: setT r d v
theorem setT_cons (q : Int × Int) (r : List (Int × Int)) (d v : Int) : setT (q :: r) d v = if q.1 = d then (q.1, v) :: r else q :: setT r d v := rfl
theorem putS {t : List (Int × Int)} (hn : (t.map (·.1)).Nodup) (d v : Int) : putD (dicT t) (.inl d) (.int v) = dicT (setT t d v) := by
  unfold putD
  rw [anyT]
  cases e : lookT t d with
  | none =>
    have hm := lookT_none.mp e
    have : setT t d v = t ++ [(d, v)] := by
      clear e hn
      induction t with
      | nil => rfl
      | cons q r ih =>
        simp only [List.map_cons, List.mem_cons, not_or] at hm
        rw [setT_cons, if_neg fun z => hm.1 z.symm, ih hm.2]; rfl
    rw [this]
    simp [dicT]
  | some c =>
    show (if true = true then _ else _) = _
    rw [if_pos rfl]
    induction t with
    | nil => cases e
    | cons q r ih =>
      rw [lookT_cons] at e
      rw [setT_cons]
      unfold dicT
      by_cases h : q.1 = d
      · rw [if_pos h] at e ⊢
        have hr : ∀ z ∈ r, z.1 ≠ d := fun z hz ez => by
          rw [List.map_cons, List.nodup_cons] at hn
          exact hn.1 (by rw [h, ← ez]; exact List.mem_map_of_mem hz)
        simp only [List.map_cons, List.map_map, h, if_true]
        congr 1
        refine List.map_congr_left fun z hz => ?_
        have : ¬ ((Sum.inl z.1 : L2.Key) = Sum.inl d) := fun e => hr z hz (Sum.inl.inj e)
        simp [this]
      · rw [if_neg h] at e ⊢
        have : ¬ ((Sum.inl q.1 : L2.Key) = Sum.inl d) := fun e => h (Sum.inl.inj e)
        rw [List.map_cons, List.nodup_cons] at hn
        have ih := ih hn.2 e
        unfold dicT at ih
        simp only [List.map_cons, this, if_false]
        rw [ih]
end Dc
set_option maxHeartbeats 1000000
namespace Dc
open PySem L2 PyProof.Rows PySem.W
structure GoodLot (l : List Int) : Prop where
  ne : l ≠ []
  len : l.length ≤ 1000
  rng : ∀ z ∈ l, 0 ≤ z ∧ z ≤ 10 ^ 31
  few : ∀ m : List Int, m.Nodup → (∀ z ∈ m, z ∈ l) → m.length ≤ 10
theorem lcL_each {α : Type} {own : List Nat} {ρ : Env} {g : RG} {te : RE} {k : List D → Prop} (h : α → D) (P : D → Prop) : ∀ {l : List α} {acc : List D}, (∀ a ∈ l, ∀ R : D → Prop, (∀ e, P e → R e) → g (h a) ρ fun ρ1 => te noX ρ1 fun e ge ρ3 => wipeE (leak e ge ρ3) own = ρ ∧ R e) → (∀ ds, ds.length = l.length → (∀ d ∈ ds, P d) → k (acc ++ ds)) → lcL own ρ g dYes te (l.map h) acc k
  | [], acc, _, hk => by
    show k acc
    simpa using hk [] rfl (by simp)
  | a :: l, acc, hs, hk => by
    show g (h a) ρ fun ρ1 => te noX ρ1 fun e ge ρ3 => wipeE (leak e ge ρ3) own = ρ ∧ lcL own ρ g dYes te (l.map h) (acc ++ [e]) k
    refine hs a (by simp) _ fun e pe => lcL_each h P (fun d hd => hs d (List.mem_cons_of_mem _ hd)) fun ds hl hp => ?_
    have := hk (e :: ds) (by simp [hl]) fun d hd => by
      rcases List.mem_cons.mp hd with rfl | hd
      · exact pe
      · exact hp d hd
    simpa using this
@[simp] theorem v_slicel {xs : List D} {lo hi : Option Int} {k : D → Tag → Prop} : fSlice (.lst xs) lo hi k = k (.lst (cutD xs lo hi)) .f := rfl
@[simp] theorem v_slicet {xs : List D} {lo hi : Option Int} {k : D → Tag → Prop} : fSlice (.tup xs) lo hi k = k (.tup (cutD xs lo hi)) .p := rfl
@[simp] theorem v_p39 {k : D → Tag → Prop} : fPow (.int 10) (.int 39) k = k (.int (10 ^ 39)) .p := v_pow (n := 39) (by decide) (by decide)
theorem seq_bar {a b : RS} {k : Kd} {ρ : Env} (h : ∀ K : Env → Prop, (∀ ρ', b k ρ' → K ρ') → a { k with nx := K } ρ) : sSeq a b k ρ := h (b k) fun _ h => h
end Dc
set_option maxHeartbeats 1000000
namespace Dc
open PySem L2 PyProof.Rows PySem.W
theorem loop_ix {g : RG} {tb : RS} {k : Kd} (I : Nat → Env → Prop) {ds : List D} {ρ : Env} (h : I 0 ρ) (hs : ∀ (i : Nat) (d : D), ds[i]? = some d → ∀ (ρ : Env) (K : Env → Prop), I i ρ → (∀ ρ', I (i + 1) ρ' → K ρ') → g d ρ fun ρ1 => tb { k with nx := K, ct := K, bk := k.nx } ρ1) (hk : ∀ ρ, I ds.length ρ → k.nx ρ) : dLoop g tb k ds ρ := by
  have go : ∀ (suf pre : List D) (ρ : Env), ds = pre ++ suf → I pre.length ρ → dLoop g tb k suf ρ := by
    intro suf
    induction suf with
    | nil =>
      intro pre ρ e h
      rw [List.append_nil] at e
      subst e
      exact hk ρ h
    | cons d suf ih =>
      intro pre ρ e h
      show g d ρ fun ρ1 => tb { k with nx := dLoop g tb k suf, ct := dLoop g tb k suf, bk := k.nx } ρ1
      refine hs pre.length d (by rw [e, List.getElem?_append_right (Nat.le_refl _), Nat.sub_self]; rfl) ρ _ h fun ρ' h' => ih (pre ++ [d]) ρ' (by rw [e]; simp) (by rw [List.length_append]; exact h')
  exact go ds [] ρ rfl h
theorem ups_at {n i : Nat} {d : D} (h : (ups 0 n)[i]? = some d) : i < n ∧ d = .int (i : Nat) := by
  unfold ups at h
  rw [List.getElem?_map] at h
  by_cases c : i < n
  · rw [List.getElem?_range c] at h
    simp only [Option.map_some, Option.some.injEq] at h
    exact ⟨c, by rw [← h, Int.zero_add]⟩
  · rw [List.getElem?_eq_none (by rw [List.length_range]; omega)] at h
    cases h
theorem ups_len (n : Nat) : (ups 0 n).length = n := by simp [ups]
end Dc
set_option maxHeartbeats 1000000
namespace Dc
open PySem L2 PyProof.Rows PySem.W
end Dc
set_option maxHeartbeats 1000000
namespace Dc
open PySem L2 PyProof.Rows PySem.W
instance decKind (p : Int × Int) : Decidable (KindOk p) := inferInstanceAs (Decidable (0 ≤ p.1 ∧ p.1 ≤ 10 ^ 31 ∧ 1 ≤ p.2 ∧ p.2 ≤ 10 ^ 30))
def kndP : D → Option (Int × Int)
  | .tup [.int a, .int b] => if KindOk (a, b) then some (a, b) else none
  | _ => none
theorem kndP_p (p : Int × Int) : kndP (pD p) = if KindOk p then some p else none := rfl
theorem kndP_some {d : D} {p : Int × Int} (h : kndP d = some p) : d = pD p ∧ KindOk p := by
  unfold kndP at h
  split at h
  · split at h
    · next a b hk => cases h; exact ⟨rfl, hk⟩
    · cases h
  · cases h
def befQ (b : Option Int) (p : Int × Int) : Bool := match b with
  | none => true
  | some x => decide (p.1 < x)
def kindB (d : D) (b : Option Int) : Bool := match kndP d with
  | none => false
  | some p => befQ b p
def wrAt : Nat → Option Int → List D → Option Nat
  | _, _, [] => none
  | i, b, d :: ds => if i = 10 then some i else if kindB d b = true then wrAt (i + 1) ((kndP d).map (·.1)) ds else some i
def wrongD : D → Option (Option Nat)
  | .tup (d :: ds) => (wrAt 0 none (d :: ds)).map some
  | _ => some none
theorem wrAt_good : ∀ {l : List (Int × Int)} {i : Nat} {b : Option Int}, i + l.length ≤ 10 → (∀ p ∈ l, KindOk p) → l.Pairwise (fun p q => q.1 < p.1) → (∀ x, b = some x → ∀ p ∈ l, p.1 < x) → wrAt i b (l.map pD) = none
  | [], _, _, _, _, _, _ => rfl
  | p :: l, i, b, hi, hk, hd, hb => by
    rw [List.pairwise_cons] at hd
    have k : kndP (pD p) = some p := by rw [kndP_p, if_pos (hk p (by simp))]
    have kb : kindB (pD p) b = true := by
      unfold kindB; rw [k]
      cases b with
      | none => rfl
      | some x => exact decide_eq_true (hb x rfl p (by simp))
    simp only [List.length_cons] at hi
    show (if i = 10 then some i else if kindB (pD p) b = true then wrAt (i + 1) ((kndP (pD p)).map (·.1)) (l.map pD) else some i) = none
    rw [if_neg (by omega), if_pos kb, k]
    exact wrAt_good (by omega) (fun q hq => hk q (List.mem_cons_of_mem _ hq)) hd.2 (fun x hx q hq => by cases hx; exact hd.1 q hq)
theorem wrAt_none : ∀ {ds : List D} {i : Nat} {b : Option Int}, wrAt i b ds = none → ∃ l : List (Int × Int), ds = l.map pD ∧ (i ≤ 10 → i + l.length ≤ 10) ∧ (∀ p ∈ l, KindOk p) ∧ l.Pairwise (fun p q => q.1 < p.1) ∧ (∀ x, b = some x → ∀ p ∈ l, p.1 < x)
  | [], i, b, _ => ⟨[], rfl, fun h => h, fun p hp => (by cases hp), .nil, fun x _ p hp => (by cases hp)⟩
  | d :: ds, i, b, h => by
    have h : (if i = 10 then some i else if kindB d b = true then wrAt (i + 1) ((kndP d).map (·.1)) ds else some i) = none := h
    split at h
    · cases h
    · next hi =>
      split at h
      · next kb =>
        obtain ⟨l, rfl, hl, hk, hd, hb⟩ := wrAt_none h
        unfold kindB at kb
        cases e : kndP d with
        | none => rw [e] at kb; cases kb
        | some p =>
          rw [e] at kb hb
          obtain ⟨rfl, kp⟩ := kndP_some e
          have hb := hb p.1 rfl
          refine ⟨p :: l, rfl, fun z => ?_, fun q hq => ?_, List.pairwise_cons.mpr ⟨hb, hd⟩, fun x hx q hq => ?_⟩
          · have := hl (by omega); simp only [List.length_cons]; omega
          · rcases List.mem_cons.mp hq with rfl | hq
            · exact kp
            · exact hk q hq
          · subst hx
            have kb : p.1 < x := of_decide_eq_true kb
            rcases List.mem_cons.mp hq with rfl | hq
            · exact kb
            · have := hb q hq; omega
      · cases h
theorem wrongD_good {l : List (Int × Int)} (hl : GoodK l) : wrongD (kD l) = none := by
  have h := wrAt_good (l := l) (i := 0) (b := none) (by have := hl.len; omega) hl.ok hl.desc (fun x hx => by cases hx)
  cases l with
  | nil => exact (hl.ne rfl).elim
  | cons p l =>
    show (wrAt 0 none ((p :: l).map pD)).map some = none
    rw [h]; rfl
theorem wrongD_none {d : D} (h : wrongD d = none) : ∃ l, d = kD l ∧ GoodK l := by
  unfold wrongD at h
  split at h
  · next d ds =>
    have h : wrAt 0 none (d :: ds) = none := Option.map_eq_none_iff.mp h
    obtain ⟨l, e, hl, hk, hd, _⟩ := wrAt_none h
    refine ⟨l, by rw [e]; rfl, fun z => ?_, by have := hl (by omega); omega, hk, hd⟩
    rw [z] at e; cases e
  · cases h
open Classical in
theorem if_bar {t : RT} {a b : RS} {k : Kd} {ρ : Env} (h : ∀ A B : Env → Prop, (∀ ρ', a k ρ' → A ρ') → (∀ ρ', b k ρ' → B ρ') → t k.ex ρ fun c ρ1 => if c = true then A ρ1 else B ρ1) : sIf t a b k ρ := h (a k) (b k) (fun _ h => h) fun _ h => h
mutual
theorem eqv_self : ∀ {d : D}, tame d = true → PyData.eqv (py d) (py d) = true
  | .non, _ => rfl
  | .bl b, _ => by show (b == b) = true; simp
  | .int i, _ => by show (i == i) = true; simp
  | .str x, _ => by show (x == x) = true; simp
  | .tup xs, h => eqvs_self (show tames xs = true from h)
  | .lst xs, h => eqvs_self (show tames xs = true from h)
  | .dic _, h => Bool.noConfusion (show false = true from h)
  | .obj _ _, h => Bool.noConfusion (show false = true from h)
  | .ptr, h => Bool.noConfusion (show false = true from h)
  | .clo _ _, h => Bool.noConfusion (show false = true from h)
  | .exc _ _, h => Bool.noConfusion (show false = true from h)
  | .adr _, h => Bool.noConfusion (show false = true from h)
  | .scr _, h => Bool.noConfusion (show false = true from h)
  | .tpz _, h => Bool.noConfusion (show false = true from h)
theorem eqvs_self : ∀ {ds : List D}, tames ds = true → PyData.eqvAll (pys ds) (pys ds) = true
  | [], _ => rfl
  | x :: xs, h => by
    have h : (tame x && tames xs) = true := h
    rw [Bool.and_eq_true] at h
    show (PyData.eqv (py x) (py x) && PyData.eqvAll (pys xs) (pys xs)) = true
    rw [eqv_self h.1, eqvs_self h.2]; rfl
end
theorem eqD_self {d : D} (h : tame d = true) : eqD d d = true := eqv_self h
theorem v_neself {d : D} {k : D → Tag → Prop} (h : tame d = true) (h2 : dep d ≤ 60) : fNe d d k = k (.bl false) .p := by
  refine propext ⟨fun q => ?_, fun q => ⟨okEq_of h h2, okEq_of h h2, ?_⟩⟩
  · have q := q.2.2
    rw [eqD_self h] at q; exact q
  · rw [eqD_self h]; exact q
def obOr (d : D) (A : Nat → List D → Prop) (B : Prop) : Prop := match d with
  | .obj k os => A k os
  | _ => B
theorem o_call1q {fn : FN} {so : Sps} {ta : RE} {x : XQ} {ρ : Env} {Q : EQ} : dCall1 fn so ta x ρ Q = ta x ρ fun d g ρ1 => obOr d (fun k os => so [.obj k os] (fun e o => Q e (tagO o) ρ1) (fun _ => False)) (fn [d] fun e g => Q e g ρ1) := by
  unfold dCall1
  congr
  funext d g ρ1
  cases d <;> rfl
theorem obOr_t {d : D} {A : Nat → List D → Prop} {B : Prop} (h : tame d = true) : obOr d A B = B := by
  cases d <;> first | rfl | exact Bool.noConfusion (show false = true from h)
def shR : D → Str
  | .dic kvs => (dicPy kvs).shown
  | d => shD d
def ReprOk (d : D) : Prop := (tame d = true ∧ dep d ≤ 60 ∧ shW d ≤ 400000) ∨ ∃ kvs, d = .dic kvs ∧ okDic kvs ∧ GS (dicPy kvs).shown ∧ (dicPy kvs).shown.length ≤ 400000
theorem shR_tame {d : D} (h : tame d = true) : shR d = shD d := by
  cases d <;> first | rfl | exact Bool.noConfusion (show false = true from h)
theorem v_reprR {d : D} {k : D → Tag → Prop} (h : ReprOk d) : fRepr [d] k = k (.str (shR d)) .p := by
  rcases h with ⟨h1, h2, h3⟩ | ⟨kvs, rfl, h, _, _⟩
  · rw [v_repr h1 h2 (small_line (by omega)), shR_tame h1]
  · exact propext ⟨fun q => q.2, fun q => ⟨h, q⟩⟩
theorem reprok_gs {d : D} (h : ReprOk d) : PyData.strOk (shR d) = true := by
  rcases h with ⟨h1, h2, h3⟩ | ⟨kvs, rfl, h, hg, _⟩
  · rw [shR_tame h1]; exact strOk_sh h1
  · exact gs_ok hg
theorem obOr_r {d : D} {A : Nat → List D → Prop} {B : Prop} (h : ReprOk d) : obOr d A B = B := by
  rcases h with ⟨h, _, _⟩ | ⟨kvs, rfl, _⟩
  · exact obOr_t h
  · rfl
theorem reprok_i {i : Int} (h : i.natAbs.log2 < 1920) : ReprOk (.int i) := .inl ⟨decide_eq_true h, Nat.zero_le _, (by decide : 1921 ≤ 400000)⟩
theorem dic0_ok : ReprOk (.dic []) := .inr ⟨[], rfl, ⟨fun p hp => by (cases hp), by decide +kernel, by decide +kernel, by decide +kernel⟩, gs_of (by decide +kernel), by decide +kernel⟩
def RunsOk (n : Nat) (l : List Nat) : Prop := ∀ p w s : List Nat, l = p ++ (w ++ s) → (∀ c ∈ w, c ≠ 32 ∧ c ≠ 10) → w.length ≤ n
theorem RunsOk.short {n : Nat} {l : List Nat} (h : l.length ≤ n) : RunsOk n l := fun p w s z _ => by
  rw [z, List.length_append, List.length_append] at h
  omega
theorem RunsOk.app {n m : Nat} {a b : List Nat} (h : RunsOk n a) (h2 : RunsOk m b) : RunsOk (n + m) (a ++ b) := fun p w s z hw => by
  rcases List.append_eq_append_iff.mp z with ⟨x, e1, e2⟩ | ⟨x, e1, e2⟩
  · -- p = a ++ x, b = x ++ (w ++ s)
    have := h2 x w s e2 hw
    omega
  · -- a = p ++ x, w ++ s = x ++ b
    rcases List.append_eq_append_iff.mp e2 with ⟨y, f1, f2⟩ | ⟨y, f1, f2⟩
    · -- x = w ++ y
      have := h p w y (by rw [e1, f1]) hw
      omega
    · -- w = x ++ y, b = y ++ s
      have g1 := h p x [] (by rw [e1, List.append_nil]) fun c hc => hw c (by rw [f1]; exact List.mem_append_left _ hc)
      have g2 := h2 [] y s (by rw [f2]; rfl) fun c hc => hw c (by rw [f1]; exact List.mem_append_right _ hc)
      rw [f1, List.length_append]
      omega
theorem RunsOk.sep {n : Nat} {a b : List Nat} {c : Nat} (h : RunsOk n a) (h2 : RunsOk n b) (hc : c = 32 ∨ c = 10) : RunsOk n (a ++ c :: b) := fun p w s z hw => by
  rcases List.append_eq_append_iff.mp z with ⟨x, e1, e2⟩ | ⟨x, e1, e2⟩
  · -- p = a ++ x, c :: b = x ++ (w ++ s)
    cases x with
    | nil =>
      cases w with
      | nil => exact Nat.zero_le _
      | cons y w =>
        have e2 := (List.cons.inj e2).1
        have := hw y (by simp)
        omega
    | cons y x =>
      have e2 := (List.cons.inj e2).2
      exact h2 x w s e2 hw
  · -- a = p ++ x, w ++ s = x ++ c :: b
    rcases List.append_eq_append_iff.mp e2 with ⟨y, f1, f2⟩ | ⟨y, f1, f2⟩
    · exact h p w y (by rw [e1, f1]) hw
    · -- w = x ++ y, c :: b = y ++ s
      cases y with
      | nil =>
        rw [f1, List.append_nil]
        exact h p x [] (by rw [e1, List.append_nil]) fun c hc => hw c (by rw [f1]; exact List.mem_append_left _ hc)
      | cons z y =>
        have f2 := (List.cons.inj f2).1
        have := hw z (by rw [f1]; simp)
        omega
theorem RunsOk.nil {n : Nat} : RunsOk n [] := .short (Nat.zero_le _)
theorem RunsOk.join {n : Nat} {c : Nat} (hc : c = 32 ∨ c = 10) : ∀ {parts : List (List Nat)}, (∀ p ∈ parts, RunsOk n p) → RunsOk n (TL.joinL [c] parts)
  | [], _ => .nil
  | [p], h => h p (by simp)
  | p :: q :: r, h => by
    show RunsOk n (p ++ ([c] ++ TL.joinL [c] (q :: r)))
    exact RunsOk.sep (h p (by simp)) (RunsOk.join hc fun x hx => h x (List.mem_cons_of_mem _ hx)) hc
mutual
def plainD : D → Bool
  | .non => true
  | .bl _ => true
  | .int _ => true
  | .str _ => true
  | .tup xs => plains xs
  | .lst xs => plains xs
  | .dic _ => true
  | _ => false
def plains : List D → Bool
  | [] => true
  | x :: xs => plainD x && plains xs
end
@[simp] theorem plain_t {xs : List D} : plainD (.tup xs) = plains xs := rfl
@[simp] theorem plain_l {xs : List D} : plainD (.lst xs) = plains xs := rfl
@[simp] theorem plains_n : plains [] = true := rfl
@[simp] theorem plains_c {x : D} {xs : List D} : plains (x :: xs) = (plainD x && plains xs) := rfl
theorem plains_mem {xs : List D} (h : plains xs = true) : ∀ d ∈ xs, plainD d = true := by
  induction xs with
  | nil => intro d hd; cases hd
  | cons x xs ih =>
    have h : (plainD x && plains xs) = true := h
    rw [Bool.and_eq_true] at h
    intro d hd
    rcases List.mem_cons.mp hd with rfl | hd
    · exact h.1
    · exact ih h.2 d hd
theorem plains_all {xs : List D} (h : ∀ d ∈ xs, plainD d = true) : plains xs = true := by
  induction xs with
  | nil => rfl
  | cons x xs ih =>
    show (plainD x && plains xs) = true
    rw [h x (by simp), ih fun d hd => h d (List.mem_cons_of_mem _ hd)]; rfl
theorem plain_kD (l : List (Int × Int)) : plainD (kD l) = true := plains_all fun d hd => by
  obtain ⟨p, _, rfl⟩ := List.mem_map.mp hd
  rfl
-- how deep tuples stand in one another
mutual
def tdep : D → Nat
  | .tup xs => tdeps xs + 1
  | _ => 0
def tdeps : List D → Nat
  | [] => 0
  | x :: xs => max (tdep x) (tdeps xs)
end
mutual
def tlen (n : Nat) : D → Bool
  | .tup xs => decide (xs.length ≤ n) && tlens n xs
  | _ => true
def tlens (n : Nat) : List D → Bool
  | [] => true
  | x :: xs => tlen n x && tlens n xs
end
mutual
theorem tlen_le {n m : Nat} (e : n ≤ m) : ∀ {d : D}, tlen n d = true → tlen m d = true
  | .tup xs, h => by
    have h : (decide (xs.length ≤ n) && tlens n xs) = true := h
    rw [Bool.and_eq_true] at h
    show (decide (xs.length ≤ m) && tlens m xs) = true
    rw [tlens_le e h.2, decide_eq_true (Nat.le_trans (of_decide_eq_true h.1) e)]; rfl
  | .non, _ => rfl
  | .bl _, _ => rfl
  | .int _, _ => rfl
  | .str _, _ => rfl
  | .lst _, _ => rfl
  | .dic _, _ => rfl
  | .obj _ _, _ => rfl
  | .ptr, _ => rfl
  | .clo _ _, _ => rfl
  | .exc _ _, _ => rfl
  | .adr _, _ => rfl
  | .scr _, _ => rfl
  | .tpz _, _ => rfl
theorem tlens_le {n m : Nat} (e : n ≤ m) : ∀ {ds : List D}, tlens n ds = true → tlens m ds = true
  | [], _ => rfl
  | x :: xs, h => by
    have h : (tlen n x && tlens n xs) = true := h
    rw [Bool.and_eq_true] at h
    show (tlen m x && tlens m xs) = true
    rw [tlen_le e h.1, tlens_le e h.2]; rfl
end
end Dc
set_option maxHeartbeats 1000000
namespace Dc
open PySem L2 PyProof.Rows PySem.W
mutual
def txD (n : Nat) : D → Bool
  | .str x => PyData.strOk x && decide (x.length ≤ n)
  | .tup xs => txDs n xs
  | .lst xs => txDs n xs
  | _ => true
def txDs (n : Nat) : List D → Bool
  | [] => true
  | x :: xs => txD n x && txDs n xs
end
end Dc
set_option maxHeartbeats 1000000
namespace Dc
open PySem L2 PyProof.Rows PySem.W
structure JK (l : List (Int × Int)) : Prop where
  len : l.length ≤ 100
  ok : ∀ p ∈ l, 0 ≤ p.1 ∧ p.1 < 10 ^ 40 ∧ 0 < p.2 ∧ p.2 < 10 ^ 40
end Dc
set_option maxHeartbeats 1000000
namespace Dc
open PySem L2 PyProof.Rows PySem.W
structure WK (l : List (Int × Int)) : Prop where
  ne : l ≠ []
  len : l.length ≤ 2
  ok : ∀ p ∈ l, 0 ≤ p.1 ∧ p.1 < 10 ^ 60 ∧ 1 ≤ p.2 ∧ p.2 < 10 ^ 60
  desc : l.Pairwise fun p q => q.1 < p.1
end Dc
set_option maxHeartbeats 1000000
namespace Dc
open PySem L2 PyProof.Rows PySem.W
inductive Pc where
  | alone (n : Int) | tied (n : Int) | rest (l : List (Int × Int)) | halves (a c : List (Int × Int))
structure PosK (l : List (Int × Int)) : Prop where
  ok : ∀ p ∈ l, 0 ≤ p.1 ∧ 1 ≤ p.2
  desc : l.Pairwise fun p q => q.1 < p.1
theorem WK.pos {l : List (Int × Int)} (h : WK l) : PosK l := ⟨fun p hp => ⟨(h.ok p hp).1, (h.ok p hp).2.2.1⟩, h.desc⟩
end Dc
set_option maxHeartbeats 1000000
namespace Dc
open PySem L2 PyProof.Rows PySem.W
end Dc
set_option maxHeartbeats 1000000
namespace Dc
open PySem L2 PyProof.Rows PySem.W
end Dc
set_option maxHeartbeats 1000000
namespace Dc
open PySem L2 PyProof.Rows PySem.W
structure FewN (l : List Nat) : Prop where
  ne : l ≠ []
  len : l.length ≤ 10
  top : ∀ n ∈ l, n < 16
end Dc
set_option maxHeartbeats 1000000
namespace Dc
open PySem L2 PyProof.Rows PySem.W
inductive Real : List Nat → Prop
  | nil : Real []
  | cons (d : Nat) (ps : List (Nat × Bool)) : ps.countP (·.2) = d → (∀ p ∈ ps, p.2 = true → 0 < p.1) → Real (ps.map fun p => p.1 - p.2.toNat) → Real (d :: ps.map (·.1))
end Dc
set_option maxHeartbeats 1000000
namespace Dc
open PySem L2 PyProof.Rows PySem.W
end Dc
set_option maxHeartbeats 1000000
namespace Dc
open PySem L2 PyProof.Rows PySem.W
def insN (a : Nat) : List Nat → List Nat
  | [] => [a]
  | b :: r => if b ≤ a then a :: b :: r else b :: insN a r
def sortN : List Nat → List Nat
  | [] => []
  | a :: r => insN a (sortN r)
def hh : Nat → List Nat → Bool
  | _, [] => true
  | 0, _ :: _ => false
  | n + 1, d :: l => decide (d ≤ l.length) && (l.take d).all (fun x => decide (0 < x)) && hh n (sortN ((l.take d).map (fun x => x - 1) ++ l.drop d))
def minS (k : Nat) (l : List Nat) : Nat := (l.map fun d => min d k).sum
theorem Real.room {l : List Nat} (h : Real l) : ∀ k, (l.take k).sum ≤ k * (k - 1) + minS k (l.drop k) := by
  induction h with
  | nil => intro k; simp
  | cons d ps h1 h2 _ ih =>
    intro k
    cases k with
    | zero => simp
    | succ k =>
      have h := ih k
      rw [List.take_succ_cons, List.drop_succ_cons, List.sum_cons]
      have first : ∀ (qs : List (Nat × Bool)) (k : Nat), (∀ p ∈ qs, p.2 = true → 0 < p.1) → ((qs.map (·.1)).take k).sum = ((qs.map fun p => p.1 - p.2.toNat).take k).sum + (qs.take k).countP (·.2) := by
        intro qs
        induction qs with
        | nil => intro k _; simp
        | cons q qs ih2 =>
          intro k hq
          cases k with
          | zero => rfl
          | succ k =>
            have e := ih2 k fun p hp => hq p (List.mem_cons_of_mem _ hp)
            have hq0 := hq q (by simp)
            simp only [List.map_cons, List.take_succ_cons, List.sum_cons, List.countP_cons, e]
            cases hb : q.2
            · simp [hb]; omega
            · have := hq0 hb; simp [hb]; omega
      have rest : ∀ (qs : List (Nat × Bool)) (k : Nat), (∀ p ∈ qs, p.2 = true → 0 < p.1) → minS k (qs.map fun p => p.1 - p.2.toNat) + qs.countP (·.2) ≤ minS (k + 1) (qs.map (·.1)) := by
        intro qs k
        unfold minS
        induction qs with
        | nil => intro _; simp
        | cons q qs ih2 =>
          intro hq
          have e := ih2 fun p hp => hq p (List.mem_cons_of_mem _ hp)
          have hq0 := hq q (by simp)
          simp only [List.map_cons, List.sum_cons, List.countP_cons]
          cases hb : q.2
          · simp only [Bool.toNat_false, Bool.false_eq_true, if_false]; omega
          · have := hq0 hb
            simp only [Bool.toNat_true, if_true]; omega
      have e1 := first ps k h2
      have e2 := rest (ps.drop k) k fun p hp => h2 p (List.mem_of_mem_drop hp)
      rw [List.map_drop, List.map_drop] at e2
      have e3 : ps.countP (·.2) = (ps.take k).countP (·.2) + (ps.drop k).countP (·.2) := by
        rw [← List.countP_append, List.take_append_drop]
      have e4 : (ps.take k).countP (·.2) ≤ k := Nat.le_trans List.countP_le_length (by rw [List.length_take]; omega)
      have e5 : (k + 1) * (k + 1 - 1) = k * (k - 1) + 2 * k := by
        cases k with
        | zero => rfl
        | succ k => simp only [Nat.add_sub_cancel, Nat.add_mul, Nat.mul_add]; omega
      omega
end Dc
set_option maxHeartbeats 1000000
namespace Dc
open PySem L2 PyProof.Rows PySem.W
structure BK (b : Int) (l : List (Int × Int)) : Prop where
  len : l.length ≤ 100
  ok : ∀ p ∈ l, -b ≤ p.1 ∧ p.1 ≤ b ∧ 1 ≤ p.2 ∧ p.2 < 10 ^ 40
theorem JK.bk {l : List (Int × Int)} (h : JK l) : BK (10 ^ 40) l := ⟨h.len, fun p hp => by
  obtain ⟨h1, h2, h3, h4⟩ := h.ok p hp
  omega⟩
theorem BK.sub {b : Int} {l m : List (Int × Int)} (h : BK b l) (hs : m.Sublist l) : BK b m := ⟨Nat.le_trans hs.length_le h.len, fun p hp => h.ok p (hs.subset hp)⟩
theorem BK.mono {b c : Int} {l : List (Int × Int)} (h : BK b l) (hc : b ≤ c) : BK c l := ⟨h.len, fun p hp => by have := h.ok p hp; omega⟩
theorem BK.num {b : Int} {l : List (Int × Int)} (h : BK b l) (hb : b ≤ 10 ^ 60) : ∀ p ∈ l, p.1.natAbs < 10 ^ 100 ∧ p.2.natAbs < 10 ^ 100 := fun p hp => by
  obtain ⟨h1, h2, h3, h4⟩ := h.ok p hp
  exact ⟨by omega, by omega⟩
end Dc
set_option maxHeartbeats 1000000
namespace Dc
open PySem L2 PyProof.Rows PySem.W
structure DK (l : List (Int × Int)) : Prop where
  desc : l.Pairwise fun p q => q.1 < p.1
  pos : ∀ p ∈ l, 0 < p.2
theorem DK.sub {l m : List (Int × Int)} (h : DK l) (s : m.Sublist l) : DK m := ⟨h.desc.sublist s, fun p hp => h.pos p (s.subset hp)⟩
theorem GoodK.dk {l : List (Int × Int)} (h : GoodK l) : DK l := ⟨h.desc, fun p hp => by have := (h.ok p hp).2.2.1; omega⟩
def NumB (l : List (Int × Int)) : Prop := ∀ p ∈ l, p.1.natAbs < 10 ^ 100 ∧ p.2.natAbs < 10 ^ 100
theorem BK.nb {b : Int} {l : List (Int × Int)} (h : BK b l) (hb : b ≤ 10 ^ 60) : NumB l := h.num hb
end Dc
set_option maxHeartbeats 1000000
namespace Dc
open PySem L2 PyProof.Rows PySem.W
abbrev NL := List (Nat × Nat)
inductive PcN where
  | alone (n : Nat) | tied (n : Nat) | rest (l : NL) | halves (a c : NL)
end Dc
set_option maxHeartbeats 1000000
namespace Dc
open PySem L2 PyProof.Rows PySem.W
structure PL (l : List (Int × Int)) : Prop where
  len : l.length ≤ 100
  num : ∀ p ∈ l, p.1.natAbs < 10 ^ 70 ∧ p.2.natAbs < 10 ^ 70
  pos : ∀ p ∈ l, 0 < p.2
structure PL2 (l : List (Int × Int)) : Prop where
  len : l.length ≤ 100
  num : ∀ p ∈ l, p.1.natAbs < 10 ^ 80 ∧ p.2.natAbs < 10 ^ 80
  pos : ∀ p ∈ l, 0 < p.2
end Dc
set_option maxHeartbeats 1000000
namespace Dc
open PySem L2 PyProof.Rows PySem.W
def kdC (Qd : D → Bool → Prop) : Kd := { nx := fun _ => False, rt := fun d g _ => coldD d = true ∧ Qd d (frOf g), ex := noX }
section
variable {Qd : D → Bool → Prop} {ρ : Env} {d : D} {g : Tag}
@[simp] theorem ofs : (kdC Qd).nx ρ = False := rfl
@[simp] theorem oft : (kdC Qd).rt d g ρ = (coldD d = true ∧ Qd d (frOf g)) := rfl
@[simp] theorem ofu : (kdC Qd).ex d ρ = False := rfl
end
theorem dsu_kd {xm : Nat → Bool} {N i n : Nat} {ts : RS} {Qd : D → Bool → Prop} {xd : D → Prop} {d : D} (hn : xm n = true) (hi : i < N) (h : ts (kdC Qd) ((List.replicate N Sl.no).set i (.sh (.exc n [d])))) : dSu xm N i ts (kdOf Qd xd) (.exc n [d]) := ⟨n, d, rfl, hn, hi, h⟩
@[simp] theorem cold_s {x : Str} : coldD (.str x) = true := rfl
@[simp] theorem cold_i {x : Int} : coldD (.int x) = true := rfl
@[simp] theorem cold_b {x : Bool} : coldD (.bl x) = true := rfl
@[simp] theorem cold_n : coldD .non = true := rfl
@[simp] theorem cold_l {xs : List D} : coldD (.lst xs) = coldDs xs := rfl
@[simp] theorem cold_t {xs : List D} : coldD (.tup xs) = coldDs xs := rfl
@[simp] theorem cold_nil : coldDs [] = true := rfl
@[simp] theorem cold_cons {d : D} {r : List D} : coldDs (d :: r) = (coldD d && coldDs r) := rfl
theorem eqD_p (p q : Int × Int) : eqD (pD p) (pD q) = decide (p = q) := by
  show ((p.1 == q.1) && ((p.2 == q.2) && true)) = decide (p = q)
  obtain ⟨a, b⟩ := p
  obtain ⟨c, d⟩ := q
  by_cases h : a = c
  · by_cases h2 : b = d
    · simp [h, h2]
    · simp [h, h2]
  · simp [h]
theorem eqD_kD : ∀ l m : List (Int × Int), eqD (kD l) (kD m) = decide (l = m)
  | [], [] => rfl
  | [], _ :: _ => rfl
  | _ :: _, [] => rfl
  | p :: l, q :: m => by
    have ih : PyData.eqvAll (pys (l.map pD)) (pys (m.map pD)) = decide (l = m) := eqD_kD l m
    have h := eqD_p p q
    show (eqD (pD p) (pD q) && PyData.eqvAll (pys (l.map pD)) (pys (m.map pD))) = _
    rw [ih, h]
    by_cases a : p = q <;> by_cases b : l = m <;> simp [a, b]
end Dc
set_option maxHeartbeats 2000000
namespace Dc
open PySem L2 PyProof.Rows PySem.W

abbrev sp__law_draw : Sps := castS
def sp__law_pick : Sps := fun ds Qd _ => ∃ xs : List D, (ds = [.ptr, .lst xs] ∨ ds = [.ptr, .tup xs]) ∧ xs ≠ [] ∧ xs.length ≤ 1000000 ∧ ∀ d ∈ xs, Qd d false
def r__law_pick (T : Tx) : RS :=
  (sSeq (sRet (dOp fIxA (dVar 1) (dOwn 2 sp__law_draw (dPos 2 (dCons (dVar 0) (dCons (dCall fLen (dConsB (dVar 1) dNil)) dNil)))))) sNext)
theorem pure__law_pick (T : Tx) : ∀ ds Qd xd, ds.length = 2 → sp__law_pick ds Qd xd → r__law_pick T (kdOf Qd xd) (startE (["well", "choices"] : List Str) ds) := by
  rintro _ Qd xd _ ⟨xs, hd, hn, hl, q⟩
  have h0 : 0 < xs.length := List.length_pos_iff.mpr hn
  rcases hd with rfl | rfl
  all_goals
    simp only [r__law_pick, oaa, oab, oac, oae, oag, oah, oai, oak, oam, oaq, oas, obd, obe, obg, obn, obq, obr, obv, occ, ocd, ocg, ocn, ocp, ocq, ocr, ocs, oct, odq, odr, ods, odt, odu, odv, List.getElem?_cons_zero, List.getElem?_cons_succ, List.map_cons, List.map_nil, List.cons_append, List.nil_append, List.append_nil, List.length_cons, List.length_nil, List.set_cons_zero, List.set_cons_succ, List.replicate, Nat.sub_self, Nat.zero_add, Nat.reduceAdd, Nat.reduceSub, if_true, if_false, Bool.false_eq_true, Bool.not_true, Bool.not_false, true_and, and_true, reduceIte, startE, Option.some.injEq, Sl.sh.injEq, Sl.own.injEq, oey, oez, ofa, ofs, oft, ofu, v_lenl, v_lent]
    refine ⟨_, rfl, by omega, by omega, fun r h1 h2 => ?_⟩
    obtain ⟨j, rfl⟩ := Int.eq_ofNat_of_zero_le h1
    have hj : j < xs.length := by omega
    exact ⟨xs[j], by rw [atI_get]; exact List.getElem?_eq_getElem hj, q _ (List.getElem_mem hj)⟩

def sp__law_great : Sps := fun ds Qd _ => ds = [.ptr] ∧ ∀ r : Int, 0 ≤ r → r < 10 ^ 27 → Qd (.int r) false
def r__law_great (T : Tx) : RS :=
  (sSeq (sSet 1 (dC (.int 0))) (sSeq (sFor (iRange1 (dConsB (dOp fAdd (dC (.int 1)) (dOwn 2 sp__law_draw (dPos 2 (dCons (dVar 0) (dCons (dC (.int 9)) dNil))))) dNil)) (gN 2) (sSeq (sSet 1 (dOp fAdd (dOp fMul (dC (.int 1000)) (dVar 1)) (dOwn 2 sp__law_draw (dPos 2 (dCons (dVar 0) (dCons (dC (.int 1000)) dNil)))))) sNext)) (sSeq (sRet (dVar 1)) sNext)))
theorem pure__law_great (T : Tx) : ∀ ds Qd xd, ds.length = 1 → sp__law_great ds Qd xd → r__law_great T (kdOf Qd xd) (startE (["well", "found", "turn"] : List Str) ds) := by
  rintro _ Qd xd _ ⟨rfl, q⟩
  have m1 : ∀ i, IntMulOk 1000 i := fun i => IntMulOk.of_left (by decide)
  unfold r__law_great
  refine seq_bar fun K1 hK1 => ?_
  try simp only [oaa, oab, oac, oad, oae, oag, oah, oai, oak, oam, oas, obd, obe, obg, obn, obq, obr, obv, occ, ocd, ocg, ock, ocn, ocp, ocq, ocr, ocs, oct, ocu, ocv, ocw, ode, odq, odr, ods, odt, odu, odv, List.getElem?_cons_zero, List.getElem?_cons_succ, List.map_cons, List.map_nil, List.cons_append, List.nil_append, List.append_nil, List.length_cons, List.length_nil, List.set_cons_zero, List.set_cons_succ, List.replicate, Nat.sub_self, Nat.zero_add, Nat.reduceAdd, Nat.reduceSub, if_true, if_false, Bool.false_eq_true, Bool.not_true, Bool.not_false, true_and, and_true, reduceIte, startE, Option.some.injEq, Sl.sh.injEq, Sl.own.injEq, oey, oez, ofa, ofs, oft, ofu]
  refine hK1 _ (seq_bar fun K2 hK2 => ?_)
  try simp only [oaa, oab, oac, oad, oae, oag, oah, oai, oak, oam, oas, obd, obe, obg, obn, obq, obr, obv, occ, ocd, ocg, ock, ocn, ocp, ocq, ocr, ocs, oct, ocu, ocv, ocw, ode, odq, odr, ods, odt, odu, odv, List.getElem?_cons_zero, List.getElem?_cons_succ, List.map_cons, List.map_nil, List.cons_append, List.nil_append, List.append_nil, List.length_cons, List.length_nil, List.set_cons_zero, List.set_cons_succ, List.replicate, Nat.sub_self, Nat.zero_add, Nat.reduceAdd, Nat.reduceSub, if_true, if_false, Bool.false_eq_true, Bool.not_true, Bool.not_false, true_and, and_true, reduceIte, startE, Option.some.injEq, Sl.sh.injEq, Sl.own.injEq, oey, oez, ofa, ofs, oft, ofu]
  refine ⟨9, rfl, by decide, by decide, fun c c1 c2 => ?_⟩
  have ir : inR (1 + c) := ⟨by omega, by omega⟩
  try simp only [oaa, oab, oac, oad, oae, oag, oah, oai, oak, oam, oas, obd, obe, obg, obn, obq, obr, obv, occ, ocd, ocg, ock, ocn, ocp, ocq, ocr, ocs, oct, ocu, ocv, ocw, ode, odq, odr, ods, odt, odu, odv, List.getElem?_cons_zero, List.getElem?_cons_succ, List.map_cons, List.map_nil, List.cons_append, List.nil_append, List.append_nil, List.length_cons, List.length_nil, List.set_cons_zero, List.set_cons_succ, List.replicate, Nat.sub_self, Nat.zero_add, Nat.reduceAdd, Nat.reduceSub, if_true, if_false, Bool.false_eq_true, Bool.not_true, Bool.not_false, true_and, and_true, reduceIte, startE, Option.some.injEq, Sl.sh.injEq, Sl.own.injEq, oey, oez, ofa, ofs, oft, ofu, v_addi, ir]
  refine loop_ix (fun i ρ => ∃ (r : Int) (s2 : Sl), ρ = [.sh .ptr, .sh (.int r), s2] ∧ i ≤ 9 ∧ 0 ≤ r ∧ r < 10 ^ (3 * i)) ⟨0, _, rfl, by omega, Int.le_refl _, by decide⟩ (fun i d hi0 ρ K h next => ?_) (fun ρ h => ?_)
  · obtain ⟨r, s2, rfl, hi9, r0, r1⟩ := h
    obtain ⟨hi1, rfl⟩ := ups_at hi0
    try simp only [oaa, oab, oac, oad, oae, oag, oah, oai, oak, oam, oas, obd, obe, obg, obn, obq, obr, obv, occ, ocd, ocg, ock, ocn, ocp, ocq, ocr, ocs, oct, ocu, ocv, ocw, ode, odq, odr, ods, odt, odu, odv, List.getElem?_cons_zero, List.getElem?_cons_succ, List.map_cons, List.map_nil, List.cons_append, List.nil_append, List.append_nil, List.length_cons, List.length_nil, List.set_cons_zero, List.set_cons_succ, List.replicate, Nat.sub_self, Nat.zero_add, Nat.reduceAdd, Nat.reduceSub, if_true, if_false, Bool.false_eq_true, Bool.not_true, Bool.not_false, true_and, and_true, reduceIte, startE, Option.some.injEq, Sl.sh.injEq, Sl.own.injEq, oey, oez, ofa, ofs, oft, ofu, Nat.reduceLT, Nat.lt_add_one, v_mul (m1 _)]
    refine ⟨1000, rfl, by decide, by decide, fun e e1 e2 => ?_⟩
    try simp only [oaa, oab, oac, oad, oae, oag, oah, oai, oak, oam, oas, obd, obe, obg, obn, obq, obr, obv, occ, ocd, ocg, ock, ocn, ocp, ocq, ocr, ocs, oct, ocu, ocv, ocw, ode, odq, odr, ods, odt, odu, odv, List.getElem?_cons_zero, List.getElem?_cons_succ, List.map_cons, List.map_nil, List.cons_append, List.nil_append, List.append_nil, List.length_cons, List.length_nil, List.set_cons_zero, List.set_cons_succ, List.replicate, Nat.sub_self, Nat.zero_add, Nat.reduceAdd, Nat.reduceSub, if_true, if_false, Bool.false_eq_true, Bool.not_true, Bool.not_false, true_and, and_true, reduceIte, startE, Option.some.injEq, Sl.sh.injEq, Sl.own.injEq, oey, oez, ofa, ofs, oft, ofu, v_addi]
    refine next _ ⟨_, _, rfl, by omega, by omega, ?_⟩
    have : (10 : Int) ^ (3 * (i + 1)) = 1000 * 10 ^ (3 * i) := by
      rw [show 3 * (i + 1) = 3 * i + 3 by omega, Int.pow_add]
      omega
    omega
  · obtain ⟨r, s2, rfl, hi9, r0, r1⟩ := h
    refine hK2 _ ?_
    try simp only [oaa, oab, oac, oad, oae, oag, oah, oai, oak, oam, oas, obd, obe, obg, obn, obq, obr, obv, occ, ocd, ocg, ock, ocn, ocp, ocq, ocr, ocs, oct, ocu, ocv, ocw, ode, odq, odr, ods, odt, odu, odv, List.getElem?_cons_zero, List.getElem?_cons_succ, List.map_cons, List.map_nil, List.cons_append, List.nil_append, List.append_nil, List.length_cons, List.length_nil, List.set_cons_zero, List.set_cons_succ, List.replicate, Nat.sub_self, Nat.zero_add, Nat.reduceAdd, Nat.reduceSub, if_true, if_false, Bool.false_eq_true, Bool.not_true, Bool.not_false, true_and, and_true, reduceIte, startE, Option.some.injEq, Sl.sh.injEq, Sl.own.injEq, oey, oez, ofa, ofs, oft, ofu]
    refine q r r0 (Int.lt_of_lt_of_le r1 ?_)
    rw [ups_len] at hi9 ⊢
    exact Int.ofNat_le.mpr (Nat.pow_le_pow_right (by decide) (by omega) : 10 ^ (3 * (1 + c).toNat) ≤ 10 ^ 27)

def SomeK (d : D) : Prop := plainD d = true ∧ tame d = true ∧ dep d ≤ 50 ∧ shW d ≤ 100000 ∧ ∀ xs, d = .tup xs → xs.length ≤ 12
def sp__law_some : Sps := fun ds Qd _ => ds = [.ptr] ∧ ∀ d, SomeK d → Qd d false
def PartK (d : D) : Prop := plainD d = true ∧ tame d = true ∧ dep d ≤ 10 ∧ shW d ≤ 5000
theorem part_pair {i j : Int} (hi : i.natAbs.log2 < 1920) (hj : j.natAbs.log2 < 1920) : PartK (.tup [.int i, .int j]) := by
  refine ⟨rfl, ?_, show dep (.tup [.int 0, .int 0]) ≤ 10 from by decide, show shW (.tup [.int 0, .int 0]) ≤ 5000 from by decide⟩
  simp [hi, hj]
theorem some_tup {ds : List D} (hl : ds.length ≤ 12) (h : ∀ d ∈ ds, PartK d) : SomeK (.tup ds) := by
  have d1 := deps_all (n := 10) fun d hd => (h d hd).2.2.1
  have d2 := shWs_all (n := 5000) fun d hd => (h d hd).2.2.2
  have d3 : ds.length * (5000 + 2) ≤ 12 * 5002 := Nat.mul_le_mul_right _ hl
  exact ⟨plains_all fun d hd => (h d hd).1, tames_all fun d hd => (h d hd).2.1, by show deps ds + 1 ≤ 50; omega, by show shWs ds + 3 ≤ 100000; omega, fun xs e => by cases e; exact hl⟩
theorem some_lst {ds : List D} (hl : ds.length ≤ 12) (h : ∀ d ∈ ds, PartK d) : SomeK (.lst ds) := by
  obtain ⟨h1, h2, h3, h4, _⟩ := some_tup hl h
  exact ⟨h1, h2, h3, h4, fun xs e => by cases e⟩
theorem set_part {ds : List D} (h : ∀ d ∈ ds, PartK d) (i : Nat) {e : D} (he : PartK e) : ∀ d ∈ ds.set i e, PartK d := fun d hd => by
  rcases List.mem_or_eq_of_mem_set hd with hd | rfl
  · exact h d hd
  · exact he
def odds33 : List D := [.tup [.int 31, .int 1], .tup [.int 29, .bl true], .tup [.int (-1), .int 3], .tup [.int 5, .int 0], .tup [.int 5], .lst [.int 5, .int 1], .non, .tup [.int (10 ^ 31 + 1), .int 1], .tup [.int (10 ^ 31), .int 1], .tup [.int 5, .int (10 ^ 30 + 1)]]
theorem odds_part : ∀ d ∈ odds33 ++ [D.tup [.int 5, .str "1"], D.tup [.int 1, .int 1]], PartK d := fun d hd => by
  have h : ((odds33 ++ [D.tup [.int 5, .str "1"], D.tup [.int 1, .int 1]]).all fun d => plainD d && (tame d && (decide (dep d ≤ 10) && decide (shW d ≤ 5000)))) = true := by decide +kernel
  have := List.all_eq_true.mp h d hd
  simp only [Bool.and_eq_true, decide_eq_true_eq] at this
  exact ⟨this.1, this.2.1, this.2.2.1, this.2.2.2⟩
def r__law_some (T : Tx) : RS :=
  (sSeq (sSet 1 (dOwn 2 sp__law_pick (dPos 2 (dCons (dVar 0) (dCons (dLst (dCons (dC (.int 1)) (dCons (dC (.int 2)) (dCons (dC (.int 3)) (dCons (dC (.int 9)) (dCons (dC (.int 10)) (dCons (dC (.int 11)) (dCons (dC (.int 12)) dNil)))))))) dNil))))) (sSeq (sSet 2 (dLc (iRange1 (dConsB (dVar 1) dNil)) [0] [5] (gN 5) dYes (dTup (dCons (dOp fSub (dC (.int 30)) (dOp fMul (dC (.int 2)) (dVar 5))) (dCons (dOp fAdd (dC (.int 1)) (dCall fInt (dConsB (dOwn 1 sp__law_great (dPos 1 (dCons (dVar 0) dNil))) dNil))) dNil))))) (sSeq (sIf (dTest (dOp fEq (dOwn 2 sp__law_draw (dPos 2 (dCons (dVar 0) (dCons (dC (.int 2)) dNil)))) (dC (.int 0)))) (sSeq (sSet 3 (dOwn 2 sp__law_draw (dPos 2 (dCons (dVar 0) (dCons (dVar 1) dNil))))) (sSeq (sSet 4 (dLst (dCons (dTup (dCons (dC (.int 31)) (dCons (dC (.int 1)) dNil))) (dCons (dTup (dCons (dC (.int 29)) (dCons (dC (.bl true)) dNil))) (dCons (dTup (dCons (dUn fNeg (dC (.int 1))) (dCons (dC (.int 3)) dNil))) (dCons (dTup (dCons (dC (.int 5)) (dCons (dC (.int 0)) dNil))) (dCons (dTup (dCons (dC (.int 5)) dNil)) (dCons (dLst (dCons (dC (.int 5)) (dCons (dC (.int 1)) dNil))) (dCons (dC .non) (dCons (dTup (dCons (dOp fAdd (dOp fPow (dC (.int 10)) (dC (.int 31))) (dC (.int 1))) (dCons (dC (.int 1)) dNil))) (dCons (dTup (dCons (dOp fPow (dC (.int 10)) (dC (.int 31))) (dCons (dC (.int 1)) dNil))) (dCons (dTup (dCons (dC (.int 5)) (dCons (dOp fAdd (dOp fPow (dC (.int 10)) (dC (.int 30))) (dC (.int 1))) dNil))) dNil)))))))))))) (sSeq (sPut 2 (dOwn 2 sp__law_pick (dPos 2 (dCons (dVar 0) (dCons (dOp fAdd (dVar 4) (dLst (dCons (dTup (dCons (dC (.int 5)) (dCons (dC (.str "1")) dNil))) (dCons (dOp fIxA (dVar 2) (dCall fMax (dConsB (dC (.int 0)) (dConsB (dOp fSub (dVar 3) (dC (.int 1))) dNil)))) (dCons (dTup (dCons (dC (.int 1)) (dCons (dC (.int 1)) dNil))) dNil))))) dNil)))) (dVar 3)) sNext))) sNext) (sSeq (sRet (dOwn 2 sp__law_pick (dPos 2 (dCons (dVar 0) (dCons (dLst (dCons (dCall fTuple (dConsB (dVar 2) dNil)) (dCons (dCall fTuple (dConsB (dVar 2) dNil)) (dCons (dCall fTuple (dConsB (dVar 2) dNil)) (dCons (dCall fTuple (dConsB (dVar 2) dNil)) (dCons (dCall fList (dConsB (dVar 2) dNil)) (dCons (dTup dNil) (dCons (dC .non) (dCons (dC (.str "row")) dNil))))))))) dNil))))) sNext))))
theorem pure__law_some (T : Tx) : ∀ ds Qd xd, ds.length = 1 → sp__law_some ds Qd xd → r__law_some T (kdOf Qd xd) (startE (["well", "size", "found", "at", "odd", "k"] : List Str) ds) := by
  rintro _ Qd xd _ ⟨rfl, q⟩
  have z0 : (0 : Nat) ≤ sizeLine := by decide
  have z1 : (1 : Nat) ≤ sizeLine := by decide
  have z2 : (2 : Nat) ≤ sizeLine := by decide
  have z3 : (3 : Nat) ≤ sizeLine := by decide
  have z7 : (7 : Nat) ≤ sizeLine := by decide
  have z8 : (8 : Nat) ≤ sizeLine := by decide
  have z10 : (10 : Nat) ≤ sizeLine := by decide
  unfold r__law_some
  refine seq_bar fun K1 hK1 => ?_
  try simp only [oaa, oab, oac, oad, oae, oaf, oag, oah, oai, oak, oam, oan, oap, oaq, oas, oaw, obb, obd, obe, obg, obn, obq, obr, obv, occ, ocd, ocg, ocj, ock, ocn, ocp, ocq, ocr, ocs, oct, ocw, ode, odg, odh, odk, odn, odq, odr, ods, odt, odu, odv, List.getElem?_cons_zero, List.getElem?_cons_succ, List.map_cons, List.map_nil, List.cons_append, List.nil_append, List.append_nil, List.length_cons, List.length_nil, List.set_cons_zero, List.set_cons_succ, List.replicate, Nat.sub_self, Nat.zero_add, Nat.reduceAdd, Nat.reduceSub, if_true, if_false, Bool.false_eq_true, Bool.not_true, Bool.not_false, true_and, and_true, reduceIte, startE, frz, frz1, wipeE, Option.some.injEq, Sl.sh.injEq, Sl.own.injEq, unB, oeu, oev, oew, oex, oey, oez, ofa, ofs, oft, ofu, z7]
  refine ⟨_, .inl rfl, by simp, by simp, fun d hd => ?_⟩
  obtain ⟨n, rfl, n1, n2⟩ : ∃ n : Nat, d = .int (n : Nat) ∧ 1 ≤ n ∧ n ≤ 12 := by
    simp only [List.mem_cons, List.not_mem_nil, or_false] at hd
    rcases hd with rfl | rfl | rfl | rfl | rfl | rfl | rfl
    · exact ⟨1, rfl, by omega, by omega⟩
    · exact ⟨2, rfl, by omega, by omega⟩
    · exact ⟨3, rfl, by omega, by omega⟩
    · exact ⟨9, rfl, by omega, by omega⟩
    · exact ⟨10, rfl, by omega, by omega⟩
    · exact ⟨11, rfl, by omega, by omega⟩
    · exact ⟨12, rfl, by omega, by omega⟩
  try simp only [oaa, oab, oac, oad, oae, oaf, oag, oah, oai, oak, oam, oan, oap, oaq, oas, oaw, obb, obd, obe, obg, obn, obq, obr, obv, occ, ocd, ocg, ocj, ock, ocn, ocp, ocq, ocr, ocs, oct, ocw, ode, odg, odh, odk, odn, odq, odr, ods, odt, odu, odv, List.getElem?_cons_zero, List.getElem?_cons_succ, List.map_cons, List.map_nil, List.cons_append, List.nil_append, List.append_nil, List.length_cons, List.length_nil, List.set_cons_zero, List.set_cons_succ, List.replicate, Nat.sub_self, Nat.zero_add, Nat.reduceAdd, Nat.reduceSub, if_true, if_false, Bool.false_eq_true, Bool.not_true, Bool.not_false, true_and, and_true, reduceIte, startE, frz, frz1, wipeE, Option.some.injEq, Sl.sh.injEq, Sl.own.injEq, unB, oeu, oev, oew, oex, oey, oez, ofa, ofs, oft, ofu]
  refine hK1 _ (seq_bar fun K2 hK2 => ?_)
  have ir : inR ((n : Nat) : Int) := ⟨by omega, by omega⟩
  have hz : (ups 0 ((n : Nat) : Int).toNat).length ≤ sizeLine := by rw [ups_len]; exact small_line (by omega)
  try simp only [oaa, oab, oac, oad, oae, oaf, oag, oah, oai, oak, oam, oan, oap, oaq, oas, oaw, obb, obd, obe, obg, obn, obq, obr, obv, occ, ocd, ocg, ocj, ock, ocn, ocp, ocq, ocr, ocs, oct, ocw, ode, odg, odh, odk, odn, odq, odr, ods, odt, odu, odv, List.getElem?_cons_zero, List.getElem?_cons_succ, List.map_cons, List.map_nil, List.cons_append, List.nil_append, List.append_nil, List.length_cons, List.length_nil, List.set_cons_zero, List.set_cons_succ, List.replicate, Nat.sub_self, Nat.zero_add, Nat.reduceAdd, Nat.reduceSub, if_true, if_false, Bool.false_eq_true, Bool.not_true, Bool.not_false, true_and, and_true, reduceIte, startE, Option.some.injEq, Sl.sh.injEq, Sl.own.injEq, unB, oeu, oev, oew, oex, oey, oez, ofa, ofs, oft, ofu, ir, hz, true_and]
  try simp only [oaa, oab, oac, oad, oae, oaf, oag, oah, oai, oak, oam, oan, oap, oaq, oas, oaw, obb, obd, obe, obg, obn, obq, obr, obv, occ, ocd, ocg, ocj, ock, ocn, ocp, ocq, ocr, ocs, oct, ocw, ode, odg, odh, odk, odn, odq, odr, ods, odt, odu, odv, List.getElem?_cons_zero, List.getElem?_cons_succ, List.map_cons, List.map_nil, List.cons_append, List.nil_append, List.append_nil, List.length_cons, List.length_nil, List.set_cons_zero, List.set_cons_succ, List.replicate, Nat.sub_self, Nat.zero_add, Nat.reduceAdd, Nat.reduceSub, if_true, if_false, Bool.false_eq_true, Bool.not_true, Bool.not_false, true_and, and_true, reduceIte, startE, frz, frz1, wipeE, Option.some.injEq, Sl.sh.injEq, Sl.own.injEq, unB, oeu, oev, oew, oex, oey, oez, ofa, ofs, oft, ofu]
  have m2 : ∀ i, IntMulOk 2 i := fun i => IntMulOk.of_left (by decide)
  unfold ups
  refine lcL_each (fun i : Nat => D.int (0 + (i : Nat))) PartK (fun i hi R hR => ?_) (fun ds hl hP => ?_)
  · have hi := List.mem_range.mp hi
    simp only [oaa, oab, oac, oad, oae, oaf, oag, oah, oai, oak, oam, oan, oap, oaq, oas, oaw, obb, obd, obe, obg, obn, obq, obr, obv, occ, ocd, ocg, ocj, ock, ocn, ocp, ocq, ocr, ocs, oct, ocw, ode, odg, odh, odk, odn, odq, odr, ods, odt, odu, odv, List.getElem?_cons_zero, List.getElem?_cons_succ, List.map_cons, List.map_nil, List.cons_append, List.nil_append, List.append_nil, List.length_cons, List.length_nil, List.set_cons_zero, List.set_cons_succ, List.replicate, Nat.sub_self, Nat.zero_add, Nat.reduceAdd, Nat.reduceSub, if_true, if_false, Bool.false_eq_true, Bool.not_true, Bool.not_false, true_and, and_true, reduceIte, startE, frz, frz1, wipeE, Option.some.injEq, Sl.sh.injEq, Sl.own.injEq, unB, oeu, oev, oew, oex, oey, oez, ofa, ofs, oft, ofu, Nat.reduceLT, Nat.lt_add_one, v_mul (m2 _), v_subi, z2]
    refine ⟨rfl, fun r r0 r1 => ?_⟩
    simp only [oaa, oab, oac, oad, oae, oaf, oag, oah, oai, oak, oam, oan, oap, oaq, oas, oaw, obb, obd, obe, obg, obn, obq, obr, obv, occ, ocd, ocg, ocj, ock, ocn, ocp, ocq, ocr, ocs, oct, ocw, ode, odg, odh, odk, odn, odq, odr, ods, odt, odu, odv, List.getElem?_cons_zero, List.getElem?_cons_succ, List.map_cons, List.map_nil, List.cons_append, List.nil_append, List.append_nil, List.length_cons, List.length_nil, List.set_cons_zero, List.set_cons_succ, List.replicate, Nat.sub_self, Nat.zero_add, Nat.reduceAdd, Nat.reduceSub, if_true, if_false, Bool.false_eq_true, Bool.not_true, Bool.not_false, true_and, and_true, reduceIte, startE, frz, frz1, wipeE, Option.some.injEq, Sl.sh.injEq, Sl.own.injEq, unB, oeu, oev, oew, oex, oey, oez, ofa, ofs, oft, ofu, v_addi, v_inti]
    exact hR _ (part_pair (log_ok (by omega) (by omega)) (log_ok (by omega) (by omega)))
  rw [List.nil_append]
  have hl : ds.length = n := by rw [hl, List.length_range]; omega
  refine hK2 _ (seq_bar fun K3 hK3 => if_bar fun A B hA hB => ?_)
  -- the end: a choice
  have fin : ∀ (ds : List D) (s3 s4 : Sl), ds.length ≤ 12 → (∀ d ∈ ds, PartK d) → K3 [.sh .ptr, .sh (.int (n : Nat)), .own (.lst ds), s3, s4, .no] := fun ds s3 s4 hl hP => by
    refine hK3 _ ?_
    try simp only [↓oaa, ↓oab, ↓oac, ↓oad, ↓oae, ↓oaf, ↓oag, ↓oah, ↓oai, ↓oak, ↓oam, ↓oan, ↓oap, ↓oaq, ↓oas, ↓oaw, ↓obb, ↓obd, ↓obe, ↓obg, ↓obn, ↓obq, ↓obr, ↓obv, ↓occ, ↓ocd, ↓ocg, ↓ocj, ↓ock, ↓ocn, ↓ocp, ↓ocq, ↓ocr, ↓ocs, ↓oct, ↓ocw, ↓ode, ↓odg, ↓odh, ↓odk, ↓odn, ↓odq, ↓odr, ↓ods, ↓odt, ↓odu, ↓odv, ↓List.getElem?_cons_zero, ↓List.getElem?_cons_succ, ↓List.map_cons, ↓List.map_nil, ↓List.cons_append, ↓List.nil_append, ↓List.append_nil, ↓List.length_cons, ↓List.length_nil, ↓List.set_cons_zero, ↓List.set_cons_succ, ↓List.replicate, ↓Nat.sub_self, ↓Nat.zero_add, ↓Nat.reduceAdd, ↓Nat.reduceSub, ↓if_true, ↓if_false, ↓Bool.false_eq_true, ↓Bool.not_true, ↓Bool.not_false, ↓true_and, ↓and_true, ↓reduceIte, ↓startE, ↓frz, ↓frz1, ↓wipeE, ↓Option.some.injEq, ↓Sl.sh.injEq, ↓Sl.own.injEq, ↓unB, ↓oeu, ↓oev, ↓oew, ↓oex, ↓oey, ↓oez, ↓ofa, ↓ofs, ↓oft, ↓ofu, ↓fTuple, ↓fList, ↓z8, ↓z0, ↓List.length_cons, ↓List.length_nil, ↓Nat.reduceAdd]
    refine ⟨_, .inl rfl, by simp, by simp [sizeLine_eq], fun d hd => ?_⟩
    simp only [List.mem_cons, List.not_mem_nil, or_false] at hd
    rcases hd with rfl | rfl | rfl | rfl | rfl | rfl | rfl | rfl
    · exact q _ (some_tup hl hP)
    · exact q _ (some_tup hl hP)
    · exact q _ (some_tup hl hP)
    · exact q _ (some_tup hl hP)
    · exact q _ (some_lst hl hP)
    · exact q _ (some_tup (ds := []) (by decide) (fun d hd => by cases hd))
    · exact q _ ⟨rfl, rfl, by decide, by decide, fun xs e => by cases e⟩
    · exact q _ ⟨rfl, by decide +kernel, by decide, by decide +kernel, fun xs e => by cases e⟩
  try simp only [oaa, oab, oac, oad, oae, oaf, oag, oah, oai, oak, oam, oan, oap, oaq, oas, oaw, obb, obd, obe, obg, obn, obq, obr, obv, occ, ocd, ocg, ocj, ock, ocn, ocp, ocq, ocr, ocs, oct, ocw, ode, odg, odh, odk, odn, odq, odr, ods, odt, odu, odv, List.getElem?_cons_zero, List.getElem?_cons_succ, List.map_cons, List.map_nil, List.cons_append, List.nil_append, List.append_nil, List.length_cons, List.length_nil, List.set_cons_zero, List.set_cons_succ, List.replicate, Nat.sub_self, Nat.zero_add, Nat.reduceAdd, Nat.reduceSub, if_true, if_false, Bool.false_eq_true, Bool.not_true, Bool.not_false, true_and, and_true, reduceIte, startE, frz, frz1, wipeE, Option.some.injEq, Sl.sh.injEq, Sl.own.injEq, unB, oeu, oev, oew, oex, oey, oez, ofa, ofs, oft, ofu]
  refine ⟨2, rfl, by decide, by decide, fun c c0 c1 => ?_⟩
  try simp only [v_eqi, oas]
  by_cases hc : c = 0
  case neg =>
    have e0 : (c == 0) = false := beq_eq_false_iff_ne.mpr hc
    rw [e0, if_neg (by decide)]
    refine hB _ ?_
    try simp only [oaa, oab, oac, oad, oae, oaf, oag, oah, oai, oak, oam, oan, oap, oaq, oas, oaw, obb, obd, obe, obg, obn, obq, obr, obv, occ, ocd, ocg, ocj, ock, ocn, ocp, ocq, ocr, ocs, oct, ocw, ode, odg, odh, odk, odn, odq, odr, ods, odt, odu, odv, List.getElem?_cons_zero, List.getElem?_cons_succ, List.map_cons, List.map_nil, List.cons_append, List.nil_append, List.append_nil, List.length_cons, List.length_nil, List.set_cons_zero, List.set_cons_succ, List.replicate, Nat.sub_self, Nat.zero_add, Nat.reduceAdd, Nat.reduceSub, if_true, if_false, Bool.false_eq_true, Bool.not_true, Bool.not_false, true_and, and_true, reduceIte, startE, frz, frz1, wipeE, Option.some.injEq, Sl.sh.injEq, Sl.own.injEq, unB, oeu, oev, oew, oex, oey, oez, ofa, ofs, oft, ofu]
    exact fin ds _ _ (by omega) hP
  have e0 : (c == 0) = true := beq_iff_eq.mpr hc
  rw [e0, if_pos rfl]
  refine hA _ (seq_bar fun K4 hK4 => ?_)
  try simp only [oaa, oab, oac, oad, oae, oaf, oag, oah, oai, oak, oam, oan, oap, oaq, oas, oaw, obb, obd, obe, obg, obn, obq, obr, obv, occ, ocd, ocg, ocj, ock, ocn, ocp, ocq, ocr, ocs, oct, ocw, ode, odg, odh, odk, odn, odq, odr, ods, odt, odu, odv, List.getElem?_cons_zero, List.getElem?_cons_succ, List.map_cons, List.map_nil, List.cons_append, List.nil_append, List.append_nil, List.length_cons, List.length_nil, List.set_cons_zero, List.set_cons_succ, List.replicate, Nat.sub_self, Nat.zero_add, Nat.reduceAdd, Nat.reduceSub, if_true, if_false, Bool.false_eq_true, Bool.not_true, Bool.not_false, true_and, and_true, reduceIte, startE, frz, frz1, wipeE, Option.some.injEq, Sl.sh.injEq, Sl.own.injEq, unB, oeu, oev, oew, oex, oey, oez, ofa, ofs, oft, ofu]
  refine ⟨_, rfl, by omega, by omega, fun r r0 r1 => ?_⟩
  try simp only [oaa, oab, oac, oad, oae, oaf, oag, oah, oai, oak, oam, oan, oap, oaq, oas, oaw, obb, obd, obe, obg, obn, obq, obr, obv, occ, ocd, ocg, ocj, ock, ocn, ocp, ocq, ocr, ocs, oct, ocw, ode, odg, odh, odk, odn, odq, odr, ods, odt, odu, odv, List.getElem?_cons_zero, List.getElem?_cons_succ, List.map_cons, List.map_nil, List.cons_append, List.nil_append, List.append_nil, List.length_cons, List.length_nil, List.set_cons_zero, List.set_cons_succ, List.replicate, Nat.sub_self, Nat.zero_add, Nat.reduceAdd, Nat.reduceSub, if_true, if_false, Bool.false_eq_true, Bool.not_true, Bool.not_false, true_and, and_true, reduceIte, startE, frz, frz1, wipeE, Option.some.injEq, Sl.sh.injEq, Sl.own.injEq, unB, oeu, oev, oew, oex, oey, oez, ofa, ofs, oft, ofu]
  obtain ⟨j, rfl⟩ := Int.eq_ofNat_of_zero_le r0
  have hj : j < ds.length := by omega
  refine hK4 _ (seq_bar fun K5 hK5 => ?_)
  have p31 : ∀ k, fPow (.int 10) (.int 31) k = k (.int (10 ^ 31)) .p := fun k => v_pow (n := 31) (by decide) (by decide)
  have p30 : ∀ k, fPow (.int 10) (.int 30) k = k (.int (10 ^ 30)) .p := fun k => v_pow (n := 30) (by decide) (by decide)
  try simp only [ock, oae, oaf, oap, oah, oag, oan, oad]
  try simp only [ocr, p31, p30, v_addi, v_negi, z1, z2, z10, List.length_cons, List.length_nil, Nat.reduceAdd, true_and]
  obtain ⟨w, hw, hwp⟩ : ∃ w, atI ds (max 0 (((j : Nat) : Int) - 1)) = some w ∧ PartK w := by
    have e : max 0 (((j : Nat) : Int) - 1) = ((j - 1 : Nat) : Int) := by omega
    have hj2 : j - 1 < ds.length := by omega
    rw [e, atI_get, List.getElem?_eq_getElem hj2]
    exact ⟨_, rfl, hP _ (List.getElem_mem hj2)⟩
  have go : ∀ O : List D, O.length = 10 → (∀ d ∈ O, PartK d) → K5 [.sh .ptr, .sh (.int (n : Nat)), .own (.lst ds), .sh (.int (j : Nat)), .own (.lst O), .no] := fun O hO hOP => by
    refine hK5 _ ?_
    have zz : O.length + 3 ≤ sizeLine := by rw [hO]; decide
    try simp only [↓oaa, ↓oab, ↓oac, ↓oad, ↓oae, ↓oaf, ↓oag, ↓oah, ↓oai, ↓oak, ↓oam, ↓oan, ↓oap, ↓oaq, ↓oas, ↓oaw, ↓obb, ↓obd, ↓obe, ↓obg, ↓obn, ↓obq, ↓obr, ↓obv, ↓occ, ↓ocd, ↓ocg, ↓ocj, ↓ock, ↓ocn, ↓ocp, ↓ocq, ↓ocr, ↓ocs, ↓oct, ↓ocw, ↓ode, ↓odg, ↓odh, ↓odk, ↓odn, ↓odq, ↓odr, ↓ods, ↓odt, ↓odu, ↓odv, ↓List.getElem?_cons_zero, ↓List.getElem?_cons_succ, ↓List.map_cons, ↓List.map_nil, ↓List.cons_append, ↓List.nil_append, ↓List.append_nil, ↓List.length_cons, ↓List.length_nil, ↓List.set_cons_zero, ↓List.set_cons_succ, ↓List.replicate, ↓Nat.sub_self, ↓Nat.zero_add, ↓Nat.reduceAdd, ↓Nat.reduceSub, ↓if_true, ↓if_false, ↓Bool.false_eq_true, ↓Bool.not_true, ↓Bool.not_false, ↓true_and, ↓and_true, ↓reduceIte, ↓startE, ↓frz, ↓frz1, ↓wipeE, ↓Option.some.injEq, ↓Sl.sh.injEq, ↓Sl.own.injEq, ↓unB, ↓oeu, ↓oev, ↓oew, ↓oex, ↓oey, ↓oez, ↓ofa, ↓ofs, ↓oft, ↓ofu, ↓z2, ↓z3, ↓v_subi, ↓fMax, ↓v_ixl hw, ↓fAdd, ↓zz, ↓List.length_cons, ↓List.length_nil, ↓Nat.reduceAdd]
    refine ⟨_, .inl rfl, by simp, by simp [hO], fun d hd => ?_⟩
    have dp : PartK d := by
      rcases List.mem_append.mp hd with hd | hd
      · exact hOP d hd
      · simp only [List.mem_cons, List.not_mem_nil, or_false] at hd
        rcases hd with rfl | rfl | rfl
        · exact odds_part _ (by simp)
        · exact hwp
        · exact odds_part _ (by simp)
    have ix : ixN ds.length ((j : Nat) : Int) = some j := by unfold ixN; rw [if_pos (by omega), if_pos (by omega)]; rfl
    simp only [oaa, oab, oac, oad, oae, oaf, oag, oah, oai, oak, oam, oan, oap, oaq, oas, oaw, obb, obd, obe, obg, obn, obq, obr, obv, occ, ocd, ocg, ocj, ock, ocn, ocp, ocq, ocr, ocs, oct, ocw, ode, odg, odh, odk, odn, odq, odr, ods, odt, odu, odv, List.getElem?_cons_zero, List.getElem?_cons_succ, List.map_cons, List.map_nil, List.cons_append, List.nil_append, List.append_nil, List.length_cons, List.length_nil, List.set_cons_zero, List.set_cons_succ, List.replicate, Nat.sub_self, Nat.zero_add, Nat.reduceAdd, Nat.reduceSub, if_true, if_false, Bool.false_eq_true, Bool.not_true, Bool.not_false, true_and, and_true, reduceIte, startE, frz, frz1, wipeE, Option.some.injEq, Sl.sh.injEq, Sl.own.injEq, unB, oeu, oev, oew, oex, oey, oez, ofa, ofs, oft, ofu]
    exact ⟨j, ix, fin _ _ _ (by rw [List.length_set]; omega) (set_part hP j dp)⟩
  exact go odds33 rfl fun d hd => odds_part d (List.mem_append_left _ hd)

def sp__law_is_lot : Sps := fun ds Qd _ => ∃ d b e, ds = [d, e] ∧ plainD d = true ∧ (b = none ∧ e = .non ∨ ∃ q : Int × Int, b = some q.1 ∧ e = pD q) ∧ Qd (.bl (kindB d b)) false
theorem kndP_ni {a c : D} (h : (∀ i, a ≠ .int i) ∨ ∀ i, c ≠ .int i) : kndP (.tup [a, c]) = none := by
  cases a <;> cases c <;> first | rfl | exact (h.elim (fun h => h _ rfl) fun h => h _ rfl).elim
theorem kndP_len {xs : List D} (h : xs.length ≠ 2) : kndP (.tup xs) = none := by
  match xs, h with
  | [], _ => rfl
  | [a], _ => cases a <;> rfl
  | [a, c], h => exact (h rfl).elim
  | a :: c :: f :: r, _ => cases a <;> cases c <;> rfl
def isInt : D → Bool
  | .int _ => true
  | _ => false
theorem isInt_no {d : D} (h : isInt d = false) : ∀ i, d ≠ .int i := fun i e => by subst e; cases h
def r__law_is_lot (T : Tx) : RS :=
  (sSeq (sIf (dOr (dNot (dTruth (dIsi (kindD bTup obLow) (dVar 0)))) (dTest (dOp fNe (dCall fLen (dConsB (dVar 0) dNil)) (dC (.int 2))))) (sSeq (sRet (dC (.bl false))) sNext) sNext) (sSeq (sFor (iRange1 (dConsB (dC (.int 2)) dNil)) (gN 2) (sSeq (sIf (dOr (dTruth (dIsi (kindD bBool obLow) (dOp fIxA (dVar 0) (dVar 2)))) (dNot (dTruth (dIsi (kindD bInt obLow) (dOp fIxA (dVar 0) (dVar 2)))))) (sSeq (sRet (dC (.bl false))) sNext) sNext) sNext)) (sSeq (sIf (dOr (dNot (dTest (dChain fLe fLe (dC (.int 0)) (dOp fIxA (dVar 0) (dC (.int 0))) (dOp fPow (dC (.int 10)) (dC (.int 31)))))) (dNot (dTest (dChain fLe fLe (dC (.int 1)) (dOp fIxA (dVar 0) (dC (.int 1))) (dOp fPow (dC (.int 10)) (dC (.int 30))))))) (sSeq (sRet (dC (.bl false))) sNext) sNext) (sSeq (sRet (dOrV (dOp (fIsN fun b => b) (dVar 1) (dC .non)) (dOp fLt (dOp fIxA (dVar 0) (dC (.int 0))) (dOp fIxA (dVar 1) (dC (.int 0)))))) sNext))))
theorem pure__law_is_lot (T : Tx) : ∀ ds Qd xd, ds.length = 2 → sp__law_is_lot ds Qd xd → r__law_is_lot T (kdOf Qd xd) (startE (["thing", "before", "k"] : List Str) ds) := by
  rintro _ Qd xd _ ⟨d, b, e, rfl, hd, hb, q⟩
  have nok : kndP d = none → Qd (.bl false) false := fun h => by
    have : kindB d b = false := by unfold kindB; rw [h]
    rw [this] at q; exact q
  have kb : ∀ {z : D}, plainD z = true → isInt z = true → kindD bBool obLow z = some false ∧ kindD bInt obLow z = some true := fun {z} _ h => by
    cases z <;> first | exact ⟨rfl, rfl⟩ | exact Bool.noConfusion h
  have kn : ∀ {z : D}, plainD z = true → isInt z = false → (∃ c, kindD bBool obLow z = some c) ∧ (kindD bBool obLow z = some true ∨ kindD bInt obLow z = some false) := fun {z} hz h => by
    cases z <;> first | exact (Bool.noConfusion (show false = true from hz)) | exact ⟨⟨_, rfl⟩, .inl rfl⟩ | exact ⟨⟨_, rfl⟩, .inr rfl⟩ | cases h
  unfold r__law_is_lot
  refine seq_bar fun K1 hK1 => if_bar fun A B hA hB => ?_
  by_cases ht : ∃ xs, d = .tup xs
  case neg =>
    have k0 : kindD bTup obLow d = some false := by
      cases d <;> first | exact (Bool.noConfusion (show false = true from hd)) | rfl | exact (ht ⟨_, rfl⟩).elim
    have q0 := nok (by unfold kndP; split <;> first | exact (ht ⟨_, rfl⟩).elim | rfl)
    try simp only [oaa, oab, oac, oad, oae, oag, oai, oak, oam, oaq, oas, oau, oaw, oay, oaz, oba, obc, obg, obn, obq, obr, obv, obw, occ, ocd, ocg, ocj, ocn, ocp, ocq, ocr, ocs, oct, ocu, ocv, ocw, ode, odq, odr, ods, odt, odu, odv, List.getElem?_cons_zero, List.getElem?_cons_succ, List.map_cons, List.map_nil, List.cons_append, List.nil_append, List.append_nil, List.length_cons, List.length_nil, List.set_cons_zero, List.set_cons_succ, List.replicate, Nat.sub_self, Nat.zero_add, Nat.reduceAdd, Nat.reduceSub, if_true, if_false, Bool.false_eq_true, Bool.not_true, Bool.not_false, true_and, and_true, reduceIte, startE, Option.some.injEq, Sl.sh.injEq, Sl.own.injEq, oey, oez, ofa, ofs, oft, ofu, k0, exists_eq_left', v_truth_b]
    refine hA _ ?_
    try simp only [oaa, oab, oac, oad, oae, oag, oai, oak, oam, oaq, oas, oau, oaw, oay, oaz, oba, obc, obg, obn, obq, obr, obv, obw, occ, ocd, ocg, ocj, ocn, ocp, ocq, ocr, ocs, oct, ocu, ocv, ocw, ode, odq, odr, ods, odt, odu, odv, List.getElem?_cons_zero, List.getElem?_cons_succ, List.map_cons, List.map_nil, List.cons_append, List.nil_append, List.append_nil, List.length_cons, List.length_nil, List.set_cons_zero, List.set_cons_succ, List.replicate, Nat.sub_self, Nat.zero_add, Nat.reduceAdd, Nat.reduceSub, if_true, if_false, Bool.false_eq_true, Bool.not_true, Bool.not_false, true_and, and_true, reduceIte, startE, Option.some.injEq, Sl.sh.injEq, Sl.own.injEq, oey, oez, ofa, ofs, oft, ofu]
    exact q0
  obtain ⟨xs, rfl⟩ := ht
  have kt : kindD bTup obLow (.tup xs) = some true := rfl
  by_cases hl : xs.length = 2
  case neg =>
    have e1 : (((xs.length : Nat) : Int) == 2) = false := beq_eq_false_iff_ne.mpr (by omega)
    try simp only [oaa, oab, oac, oad, oae, oag, oai, oak, oam, oaq, oas, oau, oaw, oay, oaz, oba, obc, obg, obn, obq, obr, obv, obw, occ, ocd, ocg, ocj, ocn, ocp, ocq, ocr, ocs, oct, ocu, ocv, ocw, ode, odq, odr, ods, odt, odu, odv, List.getElem?_cons_zero, List.getElem?_cons_succ, List.map_cons, List.map_nil, List.cons_append, List.nil_append, List.append_nil, List.length_cons, List.length_nil, List.set_cons_zero, List.set_cons_succ, List.replicate, Nat.sub_self, Nat.zero_add, Nat.reduceAdd, Nat.reduceSub, if_true, if_false, Bool.false_eq_true, Bool.not_true, Bool.not_false, true_and, and_true, reduceIte, startE, Option.some.injEq, Sl.sh.injEq, Sl.own.injEq, oey, oez, ofa, ofs, oft, ofu, kt, exists_eq_left', v_truth_b, v_lent, v_nei, e1]
    refine hA _ ?_
    try simp only [oaa, oab, oac, oad, oae, oag, oai, oak, oam, oaq, oas, oau, oaw, oay, oaz, oba, obc, obg, obn, obq, obr, obv, obw, occ, ocd, ocg, ocj, ocn, ocp, ocq, ocr, ocs, oct, ocu, ocv, ocw, ode, odq, odr, ods, odt, odu, odv, List.getElem?_cons_zero, List.getElem?_cons_succ, List.map_cons, List.map_nil, List.cons_append, List.nil_append, List.append_nil, List.length_cons, List.length_nil, List.set_cons_zero, List.set_cons_succ, List.replicate, Nat.sub_self, Nat.zero_add, Nat.reduceAdd, Nat.reduceSub, if_true, if_false, Bool.false_eq_true, Bool.not_true, Bool.not_false, true_and, and_true, reduceIte, startE, Option.some.injEq, Sl.sh.injEq, Sl.own.injEq, oey, oez, ofa, ofs, oft, ofu]
    exact nok (kndP_len hl)
  obtain ⟨a, c, rfl⟩ : ∃ a c, xs = [a, c] := by
    match xs, hl with
    | [a, c], _ => exact ⟨a, c, rfl⟩
  simp only [plain_t, plains_c, plains_n, Bool.and_true, Bool.and_eq_true] at hd
  have e1 : (((2 : Nat) : Int) == (2 : Int)) = true := rfl
  try simp only [oaa, oab, oac, oad, oae, oag, oai, oak, oam, oaq, oas, oau, oaw, oay, oaz, oba, obc, obg, obn, obq, obr, obv, obw, occ, ocd, ocg, ocj, ocn, ocp, ocq, ocr, ocs, oct, ocu, ocv, ocw, ode, odq, odr, ods, odt, odu, odv, List.getElem?_cons_zero, List.getElem?_cons_succ, List.map_cons, List.map_nil, List.cons_append, List.nil_append, List.append_nil, List.length_cons, List.length_nil, List.set_cons_zero, List.set_cons_succ, List.replicate, Nat.sub_self, Nat.zero_add, Nat.reduceAdd, Nat.reduceSub, if_true, if_false, Bool.false_eq_true, Bool.not_true, Bool.not_false, true_and, and_true, reduceIte, startE, Option.some.injEq, Sl.sh.injEq, Sl.own.injEq, oey, oez, ofa, ofs, oft, ofu, kt, exists_eq_left', v_truth_b, v_lent, v_nei, e1]
  refine hB _ ?_
  try simp only [oaa, oab, oac, oad, oae, oag, oai, oak, oam, oaq, oas, oau, oaw, oay, oaz, oba, obc, obg, obn, obq, obr, obv, obw, occ, ocd, ocg, ocj, ocn, ocp, ocq, ocr, ocs, oct, ocu, ocv, ocw, ode, odq, odr, ods, odt, odu, odv, List.getElem?_cons_zero, List.getElem?_cons_succ, List.map_cons, List.map_nil, List.cons_append, List.nil_append, List.append_nil, List.length_cons, List.length_nil, List.set_cons_zero, List.set_cons_succ, List.replicate, Nat.sub_self, Nat.zero_add, Nat.reduceAdd, Nat.reduceSub, if_true, if_false, Bool.false_eq_true, Bool.not_true, Bool.not_false, true_and, and_true, reduceIte, startE, Option.some.injEq, Sl.sh.injEq, Sl.own.injEq, oey, oez, ofa, ofs, oft, ofu]
  refine hK1 _ (seq_bar fun K2 hK2 => ?_)
  have ir : inR (2 : Int) := ⟨by decide, by decide⟩
  try simp only [oaa, oab, oac, oad, oae, oag, oai, oak, oam, oaq, oas, oau, oaw, oay, oaz, oba, obc, obg, obn, obq, obr, obv, obw, occ, ocd, ocg, ocj, ocn, ocp, ocq, ocr, ocs, oct, ocu, ocv, ocw, ode, odq, odr, ods, odt, odu, odv, List.getElem?_cons_zero, List.getElem?_cons_succ, List.map_cons, List.map_nil, List.cons_append, List.nil_append, List.append_nil, List.length_cons, List.length_nil, List.set_cons_zero, List.set_cons_succ, List.replicate, Nat.sub_self, Nat.zero_add, Nat.reduceAdd, Nat.reduceSub, if_true, if_false, Bool.false_eq_true, Bool.not_true, Bool.not_false, true_and, and_true, reduceIte, startE, Option.some.injEq, Sl.sh.injEq, Sl.own.injEq, oey, oez, ofa, ofs, oft, ofu, ir]
  have bad : (isInt a = false ∨ isInt c = false) → Qd (.bl false) false := fun h => nok (kndP_ni (h.imp isInt_no isInt_no))
  refine loop_ix (fun i ρ => ∃ s, ρ = [.sh (.tup [a, c]), .sh e, s] ∧ (0 < i → isInt a = true) ∧ (1 < i → isInt c = true)) ⟨_, rfl, fun h => by omega, fun h => by omega⟩ (fun i z hi ρ K h next => ?_) (fun ρ h => ?_)
  · obtain ⟨s, rfl, h1, h2⟩ := h
    obtain ⟨hi2, rfl⟩ := ups_at hi
    obtain ⟨w, hw, hp, hbad, hgood⟩ : ∃ w, [a, c][i]? = some w ∧ plainD w = true ∧ (isInt w = false → Qd (.bl false) false) ∧ (isInt w = true → (0 < i + 1 → isInt a = true) ∧ (1 < i + 1 → isInt c = true)) := by
      have : i = 0 ∨ i = 1 := by omega
      rcases this with rfl | rfl
      · exact ⟨a, rfl, hd.1, fun h => bad (.inl h), fun h => ⟨fun _ => h, fun h => by omega⟩⟩
      · exact ⟨c, rfl, hd.2, fun h => bad (.inr h), fun h => ⟨fun _ => h1 (by omega), fun _ => h⟩⟩
    have at_ : atI [a, c] ((i : Nat) : Int) = some w := by rw [atI_get]; exact hw
    cases hi : isInt w with
    | false =>
      obtain ⟨⟨bc, e3⟩, e2⟩ := kn hp hi
      refine ⟨(by decide : 2 < 3), seq_bar fun K0 hK0 => if_bar fun A B hA hB => ?_⟩
      have fin : A [.sh (.tup [a, c]), .sh e, .sh (.int (i : Nat))] := hA _ (by
        try simp only [oaa, oab, oac, oad, oae, oag, oai, oak, oam, oaq, oas, oau, oaw, oay, oaz, oba, obc, obg, obn, obq, obr, obv, obw, occ, ocd, ocg, ocj, ocn, ocp, ocq, ocr, ocs, oct, ocu, ocv, ocw, ode, odq, odr, ods, odt, odu, odv, List.getElem?_cons_zero, List.getElem?_cons_succ, List.map_cons, List.map_nil, List.cons_append, List.nil_append, List.append_nil, List.length_cons, List.length_nil, List.set_cons_zero, List.set_cons_succ, List.replicate, Nat.sub_self, Nat.zero_add, Nat.reduceAdd, Nat.reduceSub, if_true, if_false, Bool.false_eq_true, Bool.not_true, Bool.not_false, true_and, and_true, reduceIte, startE, Option.some.injEq, Sl.sh.injEq, Sl.own.injEq, oey, oez, ofa, ofs, oft, ofu]
        exact hbad hi)
      cases bc with
      | true =>
        try simp only [oaa, oab, oac, oad, oae, oag, oai, oak, oam, oaq, oas, oau, oaw, oay, oaz, oba, obc, obg, obn, obq, obr, obv, obw, occ, ocd, ocg, ocj, ocn, ocp, ocq, ocr, ocs, oct, ocu, ocv, ocw, ode, odq, odr, ods, odt, odu, odv, List.getElem?_cons_zero, List.getElem?_cons_succ, List.map_cons, List.map_nil, List.cons_append, List.nil_append, List.append_nil, List.length_cons, List.length_nil, List.set_cons_zero, List.set_cons_succ, List.replicate, Nat.sub_self, Nat.zero_add, Nat.reduceAdd, Nat.reduceSub, if_true, if_false, Bool.false_eq_true, Bool.not_true, Bool.not_false, true_and, and_true, reduceIte, startE, Option.some.injEq, Sl.sh.injEq, Sl.own.injEq, oey, oez, ofa, ofs, oft, ofu, v_ixt at_, e3, exists_eq_left', v_truth_b, Nat.lt_add_one, Nat.reduceLT]
        exact fin
      | false =>
        have e4 : kindD bInt obLow w = some false := e2.resolve_left fun z => by rw [e3] at z; cases z
        try simp only [oaa, oab, oac, oad, oae, oag, oai, oak, oam, oaq, oas, oau, oaw, oay, oaz, oba, obc, obg, obn, obq, obr, obv, obw, occ, ocd, ocg, ocj, ocn, ocp, ocq, ocr, ocs, oct, ocu, ocv, ocw, ode, odq, odr, ods, odt, odu, odv, List.getElem?_cons_zero, List.getElem?_cons_succ, List.map_cons, List.map_nil, List.cons_append, List.nil_append, List.append_nil, List.length_cons, List.length_nil, List.set_cons_zero, List.set_cons_succ, List.replicate, Nat.sub_self, Nat.zero_add, Nat.reduceAdd, Nat.reduceSub, if_true, if_false, Bool.false_eq_true, Bool.not_true, Bool.not_false, true_and, and_true, reduceIte, startE, Option.some.injEq, Sl.sh.injEq, Sl.own.injEq, oey, oez, ofa, ofs, oft, ofu, v_ixt at_, e3, e4, exists_eq_left', v_truth_b, Nat.lt_add_one, Nat.reduceLT]
        exact fin
    | true =>
      obtain ⟨e3, e4⟩ := kb hp hi
      refine ⟨(by decide : 2 < 3), seq_bar fun K0 hK0 => if_bar fun A B hA hB => ?_⟩
      try simp only [oaa, oab, oac, oad, oae, oag, oai, oak, oam, oaq, oas, oau, oaw, oay, oaz, oba, obc, obg, obn, obq, obr, obv, obw, occ, ocd, ocg, ocj, ocn, ocp, ocq, ocr, ocs, oct, ocu, ocv, ocw, ode, odq, odr, ods, odt, odu, odv, List.getElem?_cons_zero, List.getElem?_cons_succ, List.map_cons, List.map_nil, List.cons_append, List.nil_append, List.append_nil, List.length_cons, List.length_nil, List.set_cons_zero, List.set_cons_succ, List.replicate, Nat.sub_self, Nat.zero_add, Nat.reduceAdd, Nat.reduceSub, if_true, if_false, Bool.false_eq_true, Bool.not_true, Bool.not_false, true_and, and_true, reduceIte, startE, Option.some.injEq, Sl.sh.injEq, Sl.own.injEq, oey, oez, ofa, ofs, oft, ofu, v_ixt at_, e3, e4, exists_eq_left', v_truth_b, Nat.lt_add_one, Nat.reduceLT]
      refine hB _ ?_
      try simp only [oaa, oab, oac, oad, oae, oag, oai, oak, oam, oaq, oas, oau, oaw, oay, oaz, oba, obc, obg, obn, obq, obr, obv, obw, occ, ocd, ocg, ocj, ocn, ocp, ocq, ocr, ocs, oct, ocu, ocv, ocw, ode, odq, odr, ods, odt, odu, odv, List.getElem?_cons_zero, List.getElem?_cons_succ, List.map_cons, List.map_nil, List.cons_append, List.nil_append, List.append_nil, List.length_cons, List.length_nil, List.set_cons_zero, List.set_cons_succ, List.replicate, Nat.sub_self, Nat.zero_add, Nat.reduceAdd, Nat.reduceSub, if_true, if_false, Bool.false_eq_true, Bool.not_true, Bool.not_false, true_and, and_true, reduceIte, startE, Option.some.injEq, Sl.sh.injEq, Sl.own.injEq, oey, oez, ofa, ofs, oft, ofu]
      refine hK0 _ ?_
      try simp only [oaa, oab, oac, oad, oae, oag, oai, oak, oam, oaq, oas, oau, oaw, oay, oaz, oba, obc, obg, obn, obq, obr, obv, obw, occ, ocd, ocg, ocj, ocn, ocp, ocq, ocr, ocs, oct, ocu, ocv, ocw, ode, odq, odr, ods, odt, odu, odv, List.getElem?_cons_zero, List.getElem?_cons_succ, List.map_cons, List.map_nil, List.cons_append, List.nil_append, List.append_nil, List.length_cons, List.length_nil, List.set_cons_zero, List.set_cons_succ, List.replicate, Nat.sub_self, Nat.zero_add, Nat.reduceAdd, Nat.reduceSub, if_true, if_false, Bool.false_eq_true, Bool.not_true, Bool.not_false, true_and, and_true, reduceIte, startE, Option.some.injEq, Sl.sh.injEq, Sl.own.injEq, oey, oez, ofa, ofs, oft, ofu]
      exact next _ ⟨_, rfl, hgood hi⟩
  · obtain ⟨s, rfl, h1, h2⟩ := h
    have ia := h1 (by rw [ups_len]; decide)
    have ic := h2 (by rw [ups_len]; decide)
    obtain ⟨i, rfl⟩ : ∃ i, a = .int i := by cases a <;> first | exact ⟨_, rfl⟩ | cases ia
    obtain ⟨j, rfl⟩ : ∃ j, c = .int j := by cases c <;> first | exact ⟨_, rfl⟩ | cases ic
    refine hK2 _ (seq_bar fun K3 hK3 => if_bar fun A B hA hB => ?_)
    have p31 : ∀ k, fPow (.int 10) (.int 31) k = k (.int (10 ^ 31)) .p := fun k => v_pow (n := 31) (by decide) (by decide)
    have p30 : ∀ k, fPow (.int 10) (.int 30) k = k (.int (10 ^ 30)) .p := fun k => v_pow (n := 30) (by decide) (by decide)
    have q1 : ¬ KindOk (i, j) → Qd (.bl false) false := fun h => nok (show (if KindOk (i, j) then some (i, j) else none) = none from if_neg h)
    have fin : Qd (.bl false) false → A [.sh (.tup [.int i, .int j]), .sh e, s] := fun h => hA _ (by
      try simp only [oaa, oab, oac, oad, oae, oag, oai, oak, oam, oaq, oas, oau, oaw, oay, oaz, oba, obc, obg, obn, obq, obr, obv, obw, occ, ocd, ocg, ocj, ocn, ocp, ocq, ocr, ocs, oct, ocu, ocv, ocw, ode, odq, odr, ods, odt, odu, odv, List.getElem?_cons_zero, List.getElem?_cons_succ, List.map_cons, List.map_nil, List.cons_append, List.nil_append, List.append_nil, List.length_cons, List.length_nil, List.set_cons_zero, List.set_cons_succ, List.replicate, Nat.sub_self, Nat.zero_add, Nat.reduceAdd, Nat.reduceSub, if_true, if_false, Bool.false_eq_true, Bool.not_true, Bool.not_false, true_and, and_true, reduceIte, startE, Option.some.injEq, Sl.sh.injEq, Sl.own.injEq, oey, oez, ofa, ofs, oft, ofu]
      exact h)
    by_cases c1 : 0 ≤ i
    case neg =>
      try simp only [oaa, oab, oac, oad, oae, oag, oai, oak, oam, oaq, oas, oau, oaw, oay, oaz, oba, obc, obg, obn, obq, obr, obv, obw, occ, ocd, ocg, ocj, ocn, ocp, ocq, ocr, ocs, oct, ocu, ocv, ocw, ode, odq, odr, ods, odt, odu, odv, List.getElem?_cons_zero, List.getElem?_cons_succ, List.map_cons, List.map_nil, List.cons_append, List.nil_append, List.append_nil, List.length_cons, List.length_nil, List.set_cons_zero, List.set_cons_succ, List.replicate, Nat.sub_self, Nat.zero_add, Nat.reduceAdd, Nat.reduceSub, if_true, if_false, Bool.false_eq_true, Bool.not_true, Bool.not_false, true_and, and_true, reduceIte, startE, Option.some.injEq, Sl.sh.injEq, Sl.own.injEq, oey, oez, ofa, ofs, oft, ofu, v_ixt0, v_ord, c1, decide_false]
      exact fin (q1 fun h => c1 h.1)
    by_cases c2 : i ≤ (10 : Int) ^ 31
    case neg =>
      try simp only [oaa, oab, oac, oad, oae, oag, oai, oak, oam, oaq, oas, oau, oaw, oay, oaz, oba, obc, obg, obn, obq, obr, obv, obw, occ, ocd, ocg, ocj, ocn, ocp, ocq, ocr, ocs, oct, ocu, ocv, ocw, ode, odq, odr, ods, odt, odu, odv, List.getElem?_cons_zero, List.getElem?_cons_succ, List.map_cons, List.map_nil, List.cons_append, List.nil_append, List.append_nil, List.length_cons, List.length_nil, List.set_cons_zero, List.set_cons_succ, List.replicate, Nat.sub_self, Nat.zero_add, Nat.reduceAdd, Nat.reduceSub, if_true, if_false, Bool.false_eq_true, Bool.not_true, Bool.not_false, true_and, and_true, reduceIte, startE, Option.some.injEq, Sl.sh.injEq, Sl.own.injEq, oey, oez, ofa, ofs, oft, ofu, v_ixt0, v_ord, c1, decide_true, p31, c2, decide_false]
      exact fin (q1 fun h => c2 h.2.1)
    by_cases c3 : 1 ≤ j
    case neg =>
      try simp only [oaa, oab, oac, oad, oae, oag, oai, oak, oam, oaq, oas, oau, oaw, oay, oaz, oba, obc, obg, obn, obq, obr, obv, obw, occ, ocd, ocg, ocj, ocn, ocp, ocq, ocr, ocs, oct, ocu, ocv, ocw, ode, odq, odr, ods, odt, odu, odv, List.getElem?_cons_zero, List.getElem?_cons_succ, List.map_cons, List.map_nil, List.cons_append, List.nil_append, List.append_nil, List.length_cons, List.length_nil, List.set_cons_zero, List.set_cons_succ, List.replicate, Nat.sub_self, Nat.zero_add, Nat.reduceAdd, Nat.reduceSub, if_true, if_false, Bool.false_eq_true, Bool.not_true, Bool.not_false, true_and, and_true, reduceIte, startE, Option.some.injEq, Sl.sh.injEq, Sl.own.injEq, oey, oez, ofa, ofs, oft, ofu, v_ixt0, v_ixt1, v_ord, c1, decide_true, p31, c2, c3, decide_false]
      exact fin (q1 fun h => c3 h.2.2.1)
    by_cases c4 : j ≤ (10 : Int) ^ 30
    case neg =>
      try simp only [oaa, oab, oac, oad, oae, oag, oai, oak, oam, oaq, oas, oau, oaw, oay, oaz, oba, obc, obg, obn, obq, obr, obv, obw, occ, ocd, ocg, ocj, ocn, ocp, ocq, ocr, ocs, oct, ocu, ocv, ocw, ode, odq, odr, ods, odt, odu, odv, List.getElem?_cons_zero, List.getElem?_cons_succ, List.map_cons, List.map_nil, List.cons_append, List.nil_append, List.append_nil, List.length_cons, List.length_nil, List.set_cons_zero, List.set_cons_succ, List.replicate, Nat.sub_self, Nat.zero_add, Nat.reduceAdd, Nat.reduceSub, if_true, if_false, Bool.false_eq_true, Bool.not_true, Bool.not_false, true_and, and_true, reduceIte, startE, Option.some.injEq, Sl.sh.injEq, Sl.own.injEq, oey, oez, ofa, ofs, oft, ofu, v_ixt0, v_ixt1, v_ord, c1, decide_true, p31, p30, c2, c3, c4, decide_false]
      exact fin (q1 fun h => c4 h.2.2.2)
    have kp : kndP (.tup [.int i, .int j]) = some (i, j) := if_pos (show KindOk (i, j) from ⟨c1, c2, c3, c4⟩)
    try simp only [oaa, oab, oac, oad, oae, oag, oai, oak, oam, oaq, oas, oau, oaw, oay, oaz, oba, obc, obg, obn, obq, obr, obv, obw, occ, ocd, ocg, ocj, ocn, ocp, ocq, ocr, ocs, oct, ocu, ocv, ocw, ode, odq, odr, ods, odt, odu, odv, List.getElem?_cons_zero, List.getElem?_cons_succ, List.map_cons, List.map_nil, List.cons_append, List.nil_append, List.append_nil, List.length_cons, List.length_nil, List.set_cons_zero, List.set_cons_succ, List.replicate, Nat.sub_self, Nat.zero_add, Nat.reduceAdd, Nat.reduceSub, if_true, if_false, Bool.false_eq_true, Bool.not_true, Bool.not_false, true_and, and_true, reduceIte, startE, Option.some.injEq, Sl.sh.injEq, Sl.own.injEq, oey, oez, ofa, ofs, oft, ofu, v_ixt0, v_ixt1, v_ord, c1, decide_true, p31, p30, c2, c3, c4]
    refine hB _ ?_
    try simp only [oaa, oab, oac, oad, oae, oag, oai, oak, oam, oaq, oas, oau, oaw, oay, oaz, oba, obc, obg, obn, obq, obr, obv, obw, occ, ocd, ocg, ocj, ocn, ocp, ocq, ocr, ocs, oct, ocu, ocv, ocw, ode, odq, odr, ods, odt, odu, odv, List.getElem?_cons_zero, List.getElem?_cons_succ, List.map_cons, List.map_nil, List.cons_append, List.nil_append, List.append_nil, List.length_cons, List.length_nil, List.set_cons_zero, List.set_cons_succ, List.replicate, Nat.sub_self, Nat.zero_add, Nat.reduceAdd, Nat.reduceSub, if_true, if_false, Bool.false_eq_true, Bool.not_true, Bool.not_false, true_and, and_true, reduceIte, startE, Option.some.injEq, Sl.sh.injEq, Sl.own.injEq, oey, oez, ofa, ofs, oft, ofu]
    refine hK3 _ ?_
    unfold kindB at q
    rw [kp] at q
    rcases hb with ⟨rfl, rfl⟩ | ⟨z, rfl, rfl⟩
    · try simp only [oaa, oab, oac, oad, oae, oag, oai, oak, oam, oaq, oas, oau, oaw, oay, oaz, oba, obc, obg, obn, obq, obr, obv, obw, occ, ocd, ocg, ocj, ocn, ocp, ocq, ocr, ocs, oct, ocu, ocv, ocw, ode, odq, odr, ods, odt, odu, odv, List.getElem?_cons_zero, List.getElem?_cons_succ, List.map_cons, List.map_nil, List.cons_append, List.nil_append, List.append_nil, List.length_cons, List.length_nil, List.set_cons_zero, List.set_cons_succ, List.replicate, Nat.sub_self, Nat.zero_add, Nat.reduceAdd, Nat.reduceSub, if_true, if_false, Bool.false_eq_true, Bool.not_true, Bool.not_false, true_and, and_true, reduceIte, startE, Option.some.injEq, Sl.sh.injEq, Sl.own.injEq, oey, oez, ofa, ofs, oft, ofu, v_is, v_nonN]
      exact q
    · try simp only [oaa, oab, oac, oad, oae, oag, oai, oak, oam, oaq, oas, oau, oaw, oay, oaz, oba, obc, obg, obn, obq, obr, obv, obw, occ, ocd, ocg, ocj, ocn, ocp, ocq, ocr, ocs, oct, ocu, ocv, ocw, ode, odq, odr, ods, odt, odu, odv, List.getElem?_cons_zero, List.getElem?_cons_succ, List.map_cons, List.map_nil, List.cons_append, List.nil_append, List.append_nil, List.length_cons, List.length_nil, List.set_cons_zero, List.set_cons_succ, List.replicate, Nat.sub_self, Nat.zero_add, Nat.reduceAdd, Nat.reduceSub, if_true, if_false, Bool.false_eq_true, Bool.not_true, Bool.not_false, true_and, and_true, reduceIte, startE, Option.some.injEq, Sl.sh.injEq, Sl.own.injEq, oey, oez, ofa, ofs, oft, ofu, pD, v_is, v_nonT, v_ixt0, v_ord]
      exact q

def wrS : Option (Option Nat) → Str
  | none => ""
  | some none => "None"
  | some (some i) => numS (i : Nat)
def sp__law_wrong : Sps := fun ds Qd _ => ∃ d, ds = [d] ∧ plainD d = true ∧ (∀ xs, d = .tup xs → xs.length ≤ 1000000) ∧ Qd (.str (wrS (wrongD d))) false
theorem wrAt_le : ∀ {ds : List D} {i j : Nat} {b : Option Int}, wrAt i b ds = some j → i ≤ 10 → j ≤ 10
  | [], i, j, b, h, _ => by cases h
  | d :: ds, i, j, b, h, hi => by
    have h : (if i = 10 then some i else if kindB d b = true then wrAt (i + 1) ((kndP d).map (·.1)) ds else some i) = some j := h
    split at h
    · cases h; exact hi
    · split at h
      · exact wrAt_le h (by omega)
      · cases h; exact hi
def r__law_wrong (T : Tx) : RS :=
  (sSeq (sIf (dOr (dNot (dTruth (dIsi (kindD bTup obLow) (dVar 0)))) (dTest (dOp fEq0 (dVar 0) (dTup dNil)))) (sSeq (sRet (dC (.str "None"))) sNext) sNext) (sSeq (sFor (iRange1 (dConsB (dCall fLen (dConsB (dVar 0) dNil)) dNil)) (gN 1) (sSeq (sIf (dOr (dTest (dOp fEq (dVar 1) (dC (.int 10)))) (dNot (dTruth (dOwn 2 sp__law_is_lot (dPos 2 (dCons (dOp fIxA (dVar 0) (dVar 1)) (dCons (dIf (dTest (dOp fEq (dVar 1) (dC (.int 0)))) (dC .non) (dOp fIxA (dVar 0) (dOp fSub (dVar 1) (dC (.int 1))))) dNil))))))) (sSeq (sRet (dCall fStr (dConsB (dVar 1) dNil))) sNext) sNext) sNext)) (sSeq (sRet (dC (.str ""))) sNext)))
theorem pure__law_wrong (T : Tx) : ∀ ds Qd xd, ds.length = 1 → sp__law_wrong ds Qd xd → r__law_wrong T (kdOf Qd xd) (startE (["thing", "k"] : List Str) ds) := by
  rintro _ Qd xd _ ⟨d, rfl, hd, hlen, q⟩
  have z0 : (0 : Nat) ≤ sizeLine := by decide
  by_cases ht : ∃ x xs, d = .tup (x :: xs)
  case neg =>
    have q : Qd (.str "None") false := by
      have : wrongD d = some none := by
        unfold wrongD
        split
        · exact (ht ⟨_, _, rfl⟩).elim
        · rfl
      rw [this] at q
      exact q
    unfold r__law_wrong
    refine seq_bar fun K1 hK1 => if_bar fun A B hA hB => ?_
    have fin : A [.sh d, .no] := by
      refine hA _ ?_
      try simp only [oaa, oab, oac, oad, oae, oag, oah, oai, oak, oam, oan, oaq, oar, oas, oaw, oay, oaz, oba, obd, obe, obg, obn, obq, obr, obv, obw, occ, ocd, ocg, ocj, ocn, ocp, ocq, ocr, ocs, oct, ocu, ocv, ocw, ode, odq, odr, ods, odt, odu, odv, List.getElem?_cons_zero, List.getElem?_cons_succ, List.map_cons, List.map_nil, List.cons_append, List.nil_append, List.append_nil, List.length_cons, List.length_nil, List.set_cons_zero, List.set_cons_succ, List.replicate, Nat.sub_self, Nat.zero_add, Nat.reduceAdd, Nat.reduceSub, if_true, if_false, Bool.false_eq_true, Bool.not_true, Bool.not_false, true_and, and_true, reduceIte, startE, Option.some.injEq, Sl.sh.injEq, Sl.own.injEq, oey, oez, ofa, ofe, ofs, oft, ofu]
      exact q
    by_cases he : d = .tup []
    · subst he
      have kt : kindD bTup obLow (.tup []) = some true := rfl
      have ee : ([] : List D).isEmpty = true := rfl
      try simp only [oaa, oab, oac, oad, oae, oag, oah, oai, oak, oam, oan, oaq, oar, oas, oaw, oay, oaz, oba, obd, obe, obg, obn, obq, obr, obv, obw, occ, ocd, ocg, ocj, ocn, ocp, ocq, ocr, ocs, oct, ocu, ocv, ocw, ode, odq, odr, ods, odt, odu, odv, List.getElem?_cons_zero, List.getElem?_cons_succ, List.map_cons, List.map_nil, List.cons_append, List.nil_append, List.append_nil, List.length_cons, List.length_nil, List.set_cons_zero, List.set_cons_succ, List.replicate, Nat.sub_self, Nat.zero_add, Nat.reduceAdd, Nat.reduceSub, if_true, if_false, Bool.false_eq_true, Bool.not_true, Bool.not_false, true_and, and_true, reduceIte, startE, Option.some.injEq, Sl.sh.injEq, Sl.own.injEq, oey, oez, ofa, ofe, ofs, oft, ofu, kt, exists_eq_left', v_truth_b, z0, ee]
      exact fin
    · have kt : kindD bTup obLow d = some false := by
        cases d with
        | tup xs =>
          cases xs with
          | nil => exact (he rfl).elim
          | cons x xs => exact (ht ⟨_, _, rfl⟩).elim
        | _ => first | exact (Bool.noConfusion (show false = true from hd)) | rfl
      try simp only [oaa, oab, oac, oad, oae, oag, oah, oai, oak, oam, oan, oaq, oar, oas, oaw, oay, oaz, oba, obd, obe, obg, obn, obq, obr, obv, obw, occ, ocd, ocg, ocj, ocn, ocp, ocq, ocr, ocs, oct, ocu, ocv, ocw, ode, odq, odr, ods, odt, odu, odv, List.getElem?_cons_zero, List.getElem?_cons_succ, List.map_cons, List.map_nil, List.cons_append, List.nil_append, List.append_nil, List.length_cons, List.length_nil, List.set_cons_zero, List.set_cons_succ, List.replicate, Nat.sub_self, Nat.zero_add, Nat.reduceAdd, Nat.reduceSub, if_true, if_false, Bool.false_eq_true, Bool.not_true, Bool.not_false, true_and, and_true, reduceIte, startE, Option.some.injEq, Sl.sh.injEq, Sl.own.injEq, oey, oez, ofa, ofe, ofs, oft, ofu, kt, exists_eq_left', v_truth_b]
      exact fin
  obtain ⟨x, xs, rfl⟩ := ht
  have q : Qd (.str (wrS ((wrAt 0 none (x :: xs)).map some))) false := q
  have tm := plains_mem (show plains (x :: xs) = true from hd)
  have kt : kindD bTup obLow (.tup (x :: xs)) = some true := rfl
  have hln := hlen _ rfl
  generalize hxs : x :: xs = ys at q tm kt hln
  have ee : ys.isEmpty = false := by rw [← hxs]; rfl
  have ir : inR (ys.length : Nat) := ⟨by omega, by omega⟩
  unfold r__law_wrong
  refine seq_bar fun K1 hK1 => if_bar fun A B hA hB => ?_
  try simp only [oaa, oab, oac, oad, oae, oag, oah, oai, oak, oam, oan, oaq, oar, oas, oaw, oay, oaz, oba, obd, obe, obg, obn, obq, obr, obv, obw, occ, ocd, ocg, ocj, ocn, ocp, ocq, ocr, ocs, oct, ocu, ocv, ocw, ode, odq, odr, ods, odt, odu, odv, List.getElem?_cons_zero, List.getElem?_cons_succ, List.map_cons, List.map_nil, List.cons_append, List.nil_append, List.append_nil, List.length_cons, List.length_nil, List.set_cons_zero, List.set_cons_succ, List.replicate, Nat.sub_self, Nat.zero_add, Nat.reduceAdd, Nat.reduceSub, if_true, if_false, Bool.false_eq_true, Bool.not_true, Bool.not_false, true_and, and_true, reduceIte, startE, Option.some.injEq, Sl.sh.injEq, Sl.own.injEq, oey, oez, ofa, ofe, ofs, oft, ofu, kt, exists_eq_left', v_truth_b, z0, ee]
  refine hB _ ?_
  try simp only [oaa, oab, oac, oad, oae, oag, oah, oai, oak, oam, oan, oaq, oar, oas, oaw, oay, oaz, oba, obd, obe, obg, obn, obq, obr, obv, obw, occ, ocd, ocg, ocj, ocn, ocp, ocq, ocr, ocs, oct, ocu, ocv, ocw, ode, odq, odr, ods, odt, odu, odv, List.getElem?_cons_zero, List.getElem?_cons_succ, List.map_cons, List.map_nil, List.cons_append, List.nil_append, List.append_nil, List.length_cons, List.length_nil, List.set_cons_zero, List.set_cons_succ, List.replicate, Nat.sub_self, Nat.zero_add, Nat.reduceAdd, Nat.reduceSub, if_true, if_false, Bool.false_eq_true, Bool.not_true, Bool.not_false, true_and, and_true, reduceIte, startE, Option.some.injEq, Sl.sh.injEq, Sl.own.injEq, oey, oez, ofa, ofe, ofs, oft, ofu]
  refine hK1 _ (seq_bar fun K2 hK2 => ?_)
  try simp only [oaa, oab, oac, oad, oae, oag, oah, oai, oak, oam, oan, oaq, oar, oas, oaw, oay, oaz, oba, obd, obe, obg, obn, obq, obr, obv, obw, occ, ocd, ocg, ocj, ocn, ocp, ocq, ocr, ocs, oct, ocu, ocv, ocw, ode, odq, odr, ods, odt, odu, odv, List.getElem?_cons_zero, List.getElem?_cons_succ, List.map_cons, List.map_nil, List.cons_append, List.nil_append, List.append_nil, List.length_cons, List.length_nil, List.set_cons_zero, List.set_cons_succ, List.replicate, Nat.sub_self, Nat.zero_add, Nat.reduceAdd, Nat.reduceSub, if_true, if_false, Bool.false_eq_true, Bool.not_true, Bool.not_false, true_and, and_true, reduceIte, startE, Option.some.injEq, Sl.sh.injEq, Sl.own.injEq, oey, oez, ofa, ofe, ofs, oft, ofu, v_lent, ir]
  refine loop_ix (fun i ρ => ∃ b s1, ρ = [.sh (.tup ys), s1] ∧ wrAt 0 none ys = wrAt i b (ys.drop i) ∧ i ≤ 10 ∧ (i = 0 ∧ b = none ∨ 0 < i ∧ ∃ z : Int × Int, ys[i - 1]? = some (pD z) ∧ b = some z.1)) ⟨none, _, rfl, rfl, by omega, .inl ⟨rfl, rfl⟩⟩ (fun i d hi0 ρ K h next => ?_) (fun ρ h => ?_)
  · obtain ⟨b, s1, rfl, hw, hi10, hb⟩ := h
    obtain ⟨hi, rfl⟩ := ups_at hi0
    obtain ⟨z, hz⟩ : ∃ z, ys[i]? = some z := ⟨_, List.getElem?_eq_getElem hi⟩
    have dr : ys.drop i = z :: ys.drop (i + 1) := by
      obtain ⟨hi', e⟩ := List.getElem?_eq_some_iff.mp hz
      rw [List.drop_eq_getElem_cons hi', e]
    have hw' : wrAt 0 none ys = (if i = 10 then some i else if kindB z b = true then wrAt (i + 1) ((kndP z).map (·.1)) (ys.drop (i + 1)) else some i) := by rw [hw, dr]; rfl
    have zm : plainD z = true := tm z (List.mem_of_getElem? hz)
    have at_ : atI ys ((i : Nat) : Int) = some z := by rw [atI_get]; exact hz
    refine ⟨(by decide : 1 < 2), seq_bar fun K0 hK0 => if_bar fun A B hA hB => ?_⟩
    have lo : ((i : Nat) : Int).natAbs.log2 < 1920 := log_ok (by omega) (by omega)
    have bad : wrAt 0 none ys = some i → A [.sh (.tup ys), .sh (.int (i : Nat))] := fun e => by
      refine hA _ ?_
      rw [e] at q
      have e1 := numS_eq (i := ((i : Nat) : Int)) (by omega)
      try simp only [oaa, oab, oac, oad, oae, oag, oah, oai, oak, oam, oan, oaq, oar, oas, oaw, oay, oaz, oba, obd, obe, obg, obn, obq, obr, obv, obw, occ, ocd, ocg, ocj, ocn, ocp, ocq, ocr, ocs, oct, ocu, ocv, ocw, ode, odq, odr, ods, odt, odu, odv, List.getElem?_cons_zero, List.getElem?_cons_succ, List.map_cons, List.map_nil, List.cons_append, List.nil_append, List.append_nil, List.length_cons, List.length_nil, List.set_cons_zero, List.set_cons_succ, List.replicate, Nat.sub_self, Nat.zero_add, Nat.reduceAdd, Nat.reduceSub, if_true, if_false, Bool.false_eq_true, Bool.not_true, Bool.not_false, true_and, and_true, reduceIte, startE, Option.some.injEq, Sl.sh.injEq, Sl.own.injEq, oey, oez, ofa, ofe, ofs, oft, ofu, fStr, lo, e1]
      exact q
    by_cases c10 : i = 10
    · have e10 : (((i : Nat) : Int) == 10) = true := beq_iff_eq.mpr (by omega)
      rw [if_pos c10] at hw'
      try simp only [oaa, oab, oac, oad, oae, oag, oah, oai, oak, oam, oan, oaq, oar, oas, oaw, oay, oaz, oba, obd, obe, obg, obn, obq, obr, obv, obw, occ, ocd, ocg, ocj, ocn, ocp, ocq, ocr, ocs, oct, ocu, ocv, ocw, ode, odq, odr, ods, odt, odu, odv, List.getElem?_cons_zero, List.getElem?_cons_succ, List.map_cons, List.map_nil, List.cons_append, List.nil_append, List.append_nil, List.length_cons, List.length_nil, List.set_cons_zero, List.set_cons_succ, List.replicate, Nat.sub_self, Nat.zero_add, Nat.reduceAdd, Nat.reduceSub, if_true, if_false, Bool.false_eq_true, Bool.not_true, Bool.not_false, true_and, and_true, reduceIte, startE, Option.some.injEq, Sl.sh.injEq, Sl.own.injEq, oey, oez, ofa, ofe, ofs, oft, ofu, v_eqi, e10, Nat.lt_add_one, Nat.reduceLT]
      exact bad hw'
    have e10 : (((i : Nat) : Int) == 10) = false := beq_eq_false_iff_ne.mpr (by omega)
    rw [if_neg c10] at hw'
    have fin : ∀ e, (b = none ∧ e = D.non ∨ ∃ q : Int × Int, b = some q.1 ∧ e = pD q) → sp__law_is_lot [z, e] (fun d o => truth d fun c => if (!c) = true then A [.sh (.tup ys), .sh (.int (i : Nat))] else B [.sh (.tup ys), .sh (.int (i : Nat))]) (fun e => xd e) := fun e he => by
      refine ⟨z, b, e, rfl, zm, he, ?_⟩
      show (if (!kindB z b) = true then _ else _)
      by_cases c : kindB z b = true
      · rw [if_pos c] at hw'
        rw [c, if_neg (by decide)]
        refine hB _ ?_
        try simp only [oaa, oab, oac, oad, oae, oag, oah, oai, oak, oam, oan, oaq, oar, oas, oaw, oay, oaz, oba, obd, obe, obg, obn, obq, obr, obv, obw, occ, ocd, ocg, ocj, ocn, ocp, ocq, ocr, ocs, oct, ocu, ocv, ocw, ode, odq, odr, ods, odt, odu, odv, List.getElem?_cons_zero, List.getElem?_cons_succ, List.map_cons, List.map_nil, List.cons_append, List.nil_append, List.append_nil, List.length_cons, List.length_nil, List.set_cons_zero, List.set_cons_succ, List.replicate, Nat.sub_self, Nat.zero_add, Nat.reduceAdd, Nat.reduceSub, if_true, if_false, Bool.false_eq_true, Bool.not_true, Bool.not_false, true_and, and_true, reduceIte, startE, Option.some.injEq, Sl.sh.injEq, Sl.own.injEq, oey, oez, ofa, ofe, ofs, oft, ofu]
        refine hK0 _ ?_
        try simp only [oaa, oab, oac, oad, oae, oag, oah, oai, oak, oam, oan, oaq, oar, oas, oaw, oay, oaz, oba, obd, obe, obg, obn, obq, obr, obv, obw, occ, ocd, ocg, ocj, ocn, ocp, ocq, ocr, ocs, oct, ocu, ocv, ocw, ode, odq, odr, ods, odt, odu, odv, List.getElem?_cons_zero, List.getElem?_cons_succ, List.map_cons, List.map_nil, List.cons_append, List.nil_append, List.append_nil, List.length_cons, List.length_nil, List.set_cons_zero, List.set_cons_succ, List.replicate, Nat.sub_self, Nat.zero_add, Nat.reduceAdd, Nat.reduceSub, if_true, if_false, Bool.false_eq_true, Bool.not_true, Bool.not_false, true_and, and_true, reduceIte, startE, Option.some.injEq, Sl.sh.injEq, Sl.own.injEq, oey, oez, ofa, ofe, ofs, oft, ofu]
        refine next _ ⟨_, _, rfl, hw', by omega, .inr ⟨by omega, ?_⟩⟩
        unfold kindB at c
        cases ek : kndP z with
        | none => rw [ek] at c; cases c
        | some p =>
          obtain ⟨rfl, _⟩ := kndP_some ek
          exact ⟨p, by rw [Nat.add_sub_cancel]; exact hz, rfl⟩
      · rw [if_neg c] at hw'
        rw [Bool.eq_false_iff.mpr c, if_pos (by decide)]
        exact bad hw'
    rcases hb with ⟨rfl, rfl⟩ | ⟨h0, w, hw1, rfl⟩
    · have e0 : (((0 : Nat) : Int) == 0) = true := rfl
      have fin := fin .non (.inl ⟨rfl, rfl⟩)
      try simp only [oaa, oab, oac, oad, oae, oag, oah, oai, oak, oam, oan, oaq, oar, oas, oaw, oay, oaz, oba, obd, obe, obg, obn, obq, obr, obv, obw, occ, ocd, ocg, ocj, ocn, ocp, ocq, ocr, ocs, oct, ocu, ocv, ocw, ode, odq, odr, ods, odt, odu, odv, List.getElem?_cons_zero, List.getElem?_cons_succ, List.map_cons, List.map_nil, List.cons_append, List.nil_append, List.append_nil, List.length_cons, List.length_nil, List.set_cons_zero, List.set_cons_succ, List.replicate, Nat.sub_self, Nat.zero_add, Nat.reduceAdd, Nat.reduceSub, if_true, if_false, Bool.false_eq_true, Bool.not_true, Bool.not_false, true_and, and_true, reduceIte, startE, Option.some.injEq, Sl.sh.injEq, Sl.own.injEq, oey, oez, ofa, ofe, ofs, oft, ofu, v_eqi, e10, e0, v_ixt at_, Nat.lt_add_one, Nat.reduceLT]
      exact fin
    · have e0 : (((i : Nat) : Int) == 0) = false := beq_eq_false_iff_ne.mpr (by omega)
      have hi2 : ((i : Nat) : Int) - 1 = ((i - 1 : Nat) : Int) := by omega
      have at2 : atI ys ((i - 1 : Nat) : Int) = some (pD w) := by rw [atI_get]; exact hw1
      have fin := fin (pD w) (.inr ⟨w, rfl, rfl⟩)
      try simp only [oaa, oab, oac, oad, oae, oag, oah, oai, oak, oam, oan, oaq, oar, oas, oaw, oay, oaz, oba, obd, obe, obg, obn, obq, obr, obv, obw, occ, ocd, ocg, ocj, ocn, ocp, ocq, ocr, ocs, oct, ocu, ocv, ocw, ode, odq, odr, ods, odt, odu, odv, List.getElem?_cons_zero, List.getElem?_cons_succ, List.map_cons, List.map_nil, List.cons_append, List.nil_append, List.append_nil, List.length_cons, List.length_nil, List.set_cons_zero, List.set_cons_succ, List.replicate, Nat.sub_self, Nat.zero_add, Nat.reduceAdd, Nat.reduceSub, if_true, if_false, Bool.false_eq_true, Bool.not_true, Bool.not_false, true_and, and_true, reduceIte, startE, Option.some.injEq, Sl.sh.injEq, Sl.own.injEq, oey, oez, ofa, ofe, ofs, oft, ofu, v_eqi, e10, e0, v_subi, hi2, v_ixt at_, v_ixt at2, Nat.lt_add_one, Nat.reduceLT]
      exact fin
  · obtain ⟨b, s1, rfl, hw, _, hb⟩ := h
    have : wrAt 0 none ys = none := by
      rw [hw, ups_len, Int.toNat_natCast, List.drop_length]; rfl
    rw [this] at q
    refine hK2 _ ?_
    try simp only [oaa, oab, oac, oad, oae, oag, oah, oai, oak, oam, oan, oaq, oar, oas, oaw, oay, oaz, oba, obd, obe, obg, obn, obq, obr, obv, obw, occ, ocd, ocg, ocj, ocn, ocp, ocq, ocr, ocs, oct, ocu, ocv, ocw, ode, odq, odr, ods, odt, odu, odv, List.getElem?_cons_zero, List.getElem?_cons_succ, List.map_cons, List.map_nil, List.cons_append, List.nil_append, List.append_nil, List.length_cons, List.length_nil, List.set_cons_zero, List.set_cons_succ, List.replicate, Nat.sub_self, Nat.zero_add, Nat.reduceAdd, Nat.reduceSub, if_true, if_false, Bool.false_eq_true, Bool.not_true, Bool.not_false, true_and, and_true, reduceIte, startE, Option.some.injEq, Sl.sh.injEq, Sl.own.injEq, oey, oez, ofa, ofe, ofs, oft, ofu]
    exact q

def repSd (l m : List (Int × Int)) : Str := Str.empty ++ "Sides of " ++ Str.ofString (toString (l.length : Int)) ++ " and " ++ Str.ofString (toString (m.length : Int)) ++ " kinds"
def sp_Sides___repr__ : Sps := fun ds Qd _ => ∃ l m, ds = [.obj 1 [kD m, kD l]] ∧ GoodK l ∧ GoodK m ∧ Qd (.str (repSd l m)) false
def r_Sides___repr__ (T : Tx) : RS :=
  (sSeq (sRet (dJs [(dC (.str "Sides of ")), (dFmt (dCall fLen (dConsB (dSl 1 1 (dVar 0)) dNil))), (dC (.str " and ")), (dFmt (dCall fLen (dConsB (dSl 1 0 (dVar 0)) dNil))), (dC (.str " kinds"))] Str.empty)) sNext)
theorem pure_Sides___repr__ (T : Tx) : ∀ ds Qd xd, ds.length = 1 → sp_Sides___repr__ ds Qd xd → r_Sides___repr__ T (kdOf Qd xd) (startE (["self"] : List Str) ds) := by
  rintro _ Qd xd _ ⟨l, m, rfl, hl, hm, q⟩
  have lo : ((l.length : Nat) : Int).natAbs.log2 < 1920 := log_ok (by omega) (by have := hl.len; omega)
  have lo2 : ((m.length : Nat) : Int).natAbs.log2 < 1920 := log_ok (by omega) (by have := hm.len; omega)
  have e1 := numS_eq (i := ((l.length : Nat) : Int)) (by omega)
  have e2 := numS_eq (i := ((m.length : Nat) : Int)) (by omega)
  have n1 := numS_len (i := ((l.length : Nat) : Int)) (by omega) (by have := hl.len; omega)
  have n2 := numS_len (i := ((m.length : Nat) : Int)) (by omega) (by have := hm.len; omega)
  have f0 : (Str.empty).length = 0 := rfl
  have f1 : ("Sides of " : Str).length = 9 := rfl
  have f2 : (" and " : Str).length = 5 := rfl
  have f3 : (" kinds" : Str).length = 6 := rfl
  simp only [r_Sides___repr__, oaa, oab, oac, oad, oag, oai, oak, oam, oaq, oas, obg, obm, obn, obq, obr, obv, obx, oby, obz, occ, ocd, ocg, ocn, ocp, ocq, ocr, ocs, oct, odq, odr, ods, odt, odu, odv, List.getElem?_cons_zero, List.getElem?_cons_succ, List.map_cons, List.map_nil, List.cons_append, List.nil_append, List.append_nil, List.length_cons, List.length_nil, List.set_cons_zero, List.set_cons_succ, List.replicate, Nat.sub_self, Nat.zero_add, Nat.reduceAdd, Nat.reduceSub, if_true, if_false, Bool.false_eq_true, Bool.not_true, Bool.not_false, true_and, and_true, reduceIte, startE, Option.some.injEq, Sl.sh.injEq, Sl.own.injEq, oey, oez, ofa, ofs, oft, ofu, kD, v_lent, List.length_map, lo, lo2, strLen_append, f0, f1, f2, f3, e1, e2]
  refine ⟨small_line (by omega), small_line (by omega), small_line (by omega), small_line (by omega), small_line (by omega), ?_⟩
  rw [repSd, e1, e2] at q
  exact q

def repS (l : List (Int × Int)) : Str := Str.empty ++ "Row of " ++ Str.ofString (toString (l.length : Int)) ++ " kinds"
def sp_Row___repr__ : Sps := fun ds Qd _ => ∃ l, ds = [.obj 0 [kD l]] ∧ GoodK l ∧ Qd (.str (repS l)) false
def r_Row___repr__ (T : Tx) : RS :=
  (sSeq (sRet (dJs [(dC (.str "Row of ")), (dFmt (dCall fLen (dConsB (dSl 0 0 (dVar 0)) dNil))), (dC (.str " kinds"))] Str.empty)) sNext)
theorem pure_Row___repr__ (T : Tx) : ∀ ds Qd xd, ds.length = 1 → sp_Row___repr__ ds Qd xd → r_Row___repr__ T (kdOf Qd xd) (startE (["self"] : List Str) ds) := by
  rintro _ Qd xd _ ⟨l, rfl, hl, q⟩
  have lo : ((l.length : Nat) : Int).natAbs.log2 < 1920 := log_ok (by omega) (by have := hl.len; omega)
  have e1 := numS_eq (i := ((l.length : Nat) : Int)) (by omega)
  have n := numS_len (i := ((l.length : Nat) : Int)) (by omega) (by have := hl.len; omega)
  have e0 : (Str.empty).length = 0 := rfl
  have e3 : ("Row of " : Str).length = 7 := rfl
  have e4 : (" kinds" : Str).length = 6 := rfl
  simp only [r_Row___repr__, oaa, oab, oac, oad, oag, oai, oak, oam, oaq, oas, obg, obm, obn, obq, obr, obv, obx, oby, obz, occ, ocd, ocg, ocn, ocp, ocq, ocr, ocs, oct, odq, odr, ods, odt, odu, odv, List.getElem?_cons_zero, List.getElem?_cons_succ, List.map_cons, List.map_nil, List.cons_append, List.nil_append, List.append_nil, List.length_cons, List.length_nil, List.set_cons_zero, List.set_cons_succ, List.replicate, Nat.sub_self, Nat.zero_add, Nat.reduceAdd, Nat.reduceSub, if_true, if_false, Bool.false_eq_true, Bool.not_true, Bool.not_false, true_and, and_true, reduceIte, startE, Option.some.injEq, Sl.sh.injEq, Sl.own.injEq, oey, oez, ofa, ofs, oft, ofu, kD, v_lent, List.length_map, lo, strLen_append, e0, e3, e4, e1]
  refine ⟨small_line (by omega), small_line (by omega), small_line (by omega), ?_⟩
  rw [repS, e1] at q
  exact q

def ReprX (d : D) (t : Str) : Prop := (ReprOk d ∧ t = shR d) ∨ ∃ l, d = .obj 0 [kD l] ∧ GoodK l ∧ t = repS l
def errK33 : Nat → Option Str
  | 29 => some "NotSides"
  | 32 => some "InvalidInner"
  | 33 => some "InvalidOuter"
  | _ => none
def sp__law_caught : SpC := fun xq q Qd => (∀ e, xq e → ∃ n d nm t, e = .exc n [d] ∧ errK33 n = some nm ∧ ReprX d t ∧ Qd (.lst [.str nm, .str t]) true) ∧ ∀ d, q d → Qd (.lst [.str "told", d]) true
theorem errK_cases {n : Nat} {nm : Str} (h : errK33 n = some nm) : (n = 29 ∧ nm = "NotSides") ∨ (n = 32 ∧ nm = "InvalidInner") ∨ (n = 33 ∧ nm = "InvalidOuter") := by
  unfold errK33 at h
  split at h <;> cases h
  · exact .inl ⟨rfl, rfl⟩
  · exact .inr (.inl ⟨rfl, rfl⟩)
  · exact .inr (.inr ⟨rfl, rfl⟩)
theorem repr_xo {d : D} {t : Str} (h : ReprX d t) {s2 : Sps} {P : D → Bool → Prop} {P2 : D → Tag → Prop} (q : P (.str t) false) (q2 : P2 (.str t) .p) : obOr d (fun k os => spOr 0 (strS sp_Row___repr__) s2 [.obj k os] P (fun _ => False)) (fRepr [d] P2) := by
  rcases h with ⟨h, rfl⟩ | ⟨l, rfl, hl, rfl⟩
  · rw [obOr_r h, v_reprR h]
    exact q2
  · simp only [obOr, spOr, strS, if_true]
    exact ⟨l, rfl, hl, q⟩
theorem repr_x {d : D} {t : Str} (h : ReprX d t) {s2 : Sps} {P : D → Prop} (q : P (.str t)) : obOr d (fun k os => spOr 0 (strS sp_Row___repr__) s2 [.obj k os] (fun e _ => P e) (fun _ => False)) (fRepr [d] fun e _ => P e) := repr_xo h q q
def s__law_caught (T : Tx) : RS :=
  (sSeq (sSet 2 (dLst (dCons (dIsX (xtOf [(20, false), (23, false), (28, false), (29, false), (30, false), (32, true), (33, false), (38, false), (39, false), (40, false)]) (dVar 1)) (dCons (dIsX (xtOf [(20, false), (23, false), (28, false), (29, false), (30, false), (32, false), (33, true), (38, false), (39, false), (40, false)]) (dVar 1)) (dCons (dIsX (xtOf [(20, false), (23, false), (28, false), (29, true), (30, false), (32, false), (33, false), (38, false), (39, false), (40, false)]) (dVar 1)) dNil))))) (sSeq (sIf (dOr (dTest (dOp fNe (dCntB (dVar 2) (dC (.bl true))) (dC (.int 1)))) (dNot (dTruth (dIsX (xtOf [(20, true), (23, true), (28, true), (29, true), (30, true), (32, true), (33, true), (38, false), (39, false), (40, false)]) (dVar 1))))) (sSeq (sRet (dLst (dCons (dC (.str "another error")) (dCons (dC (.str "")) dNil)))) sNext) sNext) (sSeq (sSet 3 (dOp fIxA (dLst (dCons (dC (.str "InvalidInner")) (dCons (dC (.str "InvalidOuter")) (dCons (dC (.str "NotSides")) dNil)))) (dIdxB (dVar 2) (dC (.bl true))))) (sSeq (sRet (dLst (dCons (dVar 3) (dCons (dIf (dTruth (dOp fIxA (dVar 2) (dC (.int 2)))) (dCall1 fRepr (spOr 0 (strS sp_Row___repr__) (spOr 1 (strS sp_Sides___repr__) spNone)) (dXfc (xmOf [20, 23, 28, 29, 38, 39, 40]) (dVar 1))) (dCall1 fRepr (spOr 0 (strS sp_Row___repr__) (spOr 1 (strS sp_Sides___repr__) spNone)) (dXfc (xmOf [30, 32, 33]) (dVar 1)))) dNil)))) sNext))))
def e__law_caught (T : Tx) : RS :=
  sNext
def r__law_caught (T : Tx) : (D → Prop) → (D → Prop) → RS := rCau (xmOf [20, 23, 28, 29, 30, 32, 33, 38, 39, 40]) 4 1 (s__law_caught T) (fdC "told") (e__law_caught T)
theorem pure__law_caught (T : Tx) : ∀ xq q Qd a, sp__law_caught xq q Qd → r__law_caught T xq q (kdOf Qd fun _ => False) (startE (["act", "e", "sorts", "word"] : List Str) [.adr a]) := by
  rintro xq q Qd a ⟨he, hq⟩
  refine ⟨fun e hx => ?_, fun d hd => hq d hd⟩
  obtain ⟨n, d, nm, t, rfl, hn, hr, hQ⟩ := he e hx
  have z1 : (1 : Nat) ≤ sizeLine := by decide
  have z2 : (2 : Nat) ≤ sizeLine := by decide
  have z3 : (3 : Nat) ≤ sizeLine := by decide
  rcases errK_cases hn with ⟨rfl, rfl⟩ | ⟨rfl, rfl⟩ | ⟨rfl, rfl⟩
  · refine dsu_kd rfl (by decide) ?_
    unfold s__law_caught
    refine seq_bar fun K1 hK1 => ?_
    try simp only [oaa, oab, oac, oad, oae, oag, oah, oak, oam, oap, oar, oas, oaw, oay, oaz, oba, obg, obn, obq, obr, obv, ocb, occ, ocd, ocg, ocj, ock, ocn, ocp, ocq, ocr, ocs, oct, odq, odr, ods, odt, odu, odv, List.getElem?_cons_zero, List.getElem?_cons_succ, List.map_cons, List.map_nil, List.cons_append, List.nil_append, List.append_nil, List.length_cons, List.length_nil, List.set_cons_zero, List.set_cons_succ, List.replicate, Nat.sub_self, Nat.zero_add, Nat.reduceAdd, Nat.reduceSub, if_true, if_false, Bool.false_eq_true, Bool.not_true, Bool.not_false, true_and, and_true, reduceIte, startE, Option.some.injEq, Sl.sh.injEq, Sl.own.injEq, oep, oeq, oer, oey, oez, ofa, ofq, ofs, oft, ofu, z3]
    refine ⟨_, rfl, _, rfl, _, rfl, ?_⟩
    refine hK1 _ (seq_bar fun K2 hK2 => if_bar fun A B hA hB => ?_)
    try simp only [oaa, oab, oac, oad, oae, oag, oah, oak, oam, oap, oar, oas, oaw, oay, oaz, oba, obg, obn, obq, obr, obv, ocb, occ, ocd, ocg, ocj, ock, ocn, ocp, ocq, ocr, ocs, oct, odq, odr, ods, odt, odu, odv, List.getElem?_cons_zero, List.getElem?_cons_succ, List.map_cons, List.map_nil, List.cons_append, List.nil_append, List.append_nil, List.length_cons, List.length_nil, List.set_cons_zero, List.set_cons_succ, List.replicate, Nat.sub_self, Nat.zero_add, Nat.reduceAdd, Nat.reduceSub, if_true, if_false, Bool.false_eq_true, Bool.not_true, Bool.not_false, true_and, and_true, reduceIte, startE, Option.some.injEq, Sl.sh.injEq, Sl.own.injEq, oep, oeq, oer, oey, oez, ofa, ofq, ofs, oft, ofu]
    refine ⟨⟨[false, false, true], rfl⟩, [false, false, true], true, rfl, rfl, ?_⟩
    have e1 : (!((((([false, false, true] : List Bool).count true : Nat) : Int)) == 1)) = false := by decide
    try simp only [oaa, oab, oac, oad, oae, oag, oah, oak, oam, oap, oar, oas, oaw, oay, oaz, oba, obg, obn, obq, obr, obv, ocb, occ, ocd, ocg, ocj, ock, ocn, ocp, ocq, ocr, ocs, oct, odq, odr, ods, odt, odu, odv, List.getElem?_cons_zero, List.getElem?_cons_succ, List.map_cons, List.map_nil, List.cons_append, List.nil_append, List.append_nil, List.length_cons, List.length_nil, List.set_cons_zero, List.set_cons_succ, List.replicate, Nat.sub_self, Nat.zero_add, Nat.reduceAdd, Nat.reduceSub, if_true, if_false, Bool.false_eq_true, Bool.not_true, Bool.not_false, true_and, and_true, reduceIte, startE, Option.some.injEq, Sl.sh.injEq, Sl.own.injEq, oep, oeq, oer, oey, oez, ofa, ofq, ofs, oft, ofu, v_nei, e1]
    refine ⟨_, rfl, ?_⟩
    try simp only [oaa, oab, oac, oad, oae, oag, oah, oak, oam, oap, oar, oas, oaw, oay, oaz, oba, obg, obn, obq, obr, obv, ocb, occ, ocd, ocg, ocj, ock, ocn, ocp, ocq, ocr, ocs, oct, odq, odr, ods, odt, odu, odv, List.getElem?_cons_zero, List.getElem?_cons_succ, List.map_cons, List.map_nil, List.cons_append, List.nil_append, List.append_nil, List.length_cons, List.length_nil, List.set_cons_zero, List.set_cons_succ, List.replicate, Nat.sub_self, Nat.zero_add, Nat.reduceAdd, Nat.reduceSub, if_true, if_false, Bool.false_eq_true, Bool.not_true, Bool.not_false, true_and, and_true, reduceIte, startE, Option.some.injEq, Sl.sh.injEq, Sl.own.injEq, oep, oeq, oer, oey, oez, ofa, ofq, ofs, oft, ofu, v_truth_b]
    refine hB _ ?_
    try simp only [oaa, oab, oac, oad, oae, oag, oah, oak, oam, oap, oar, oas, oaw, oay, oaz, oba, obg, obn, obq, obr, obv, ocb, occ, ocd, ocg, ocj, ock, ocn, ocp, ocq, ocr, ocs, oct, odq, odr, ods, odt, odu, odv, List.getElem?_cons_zero, List.getElem?_cons_succ, List.map_cons, List.map_nil, List.cons_append, List.nil_append, List.append_nil, List.length_cons, List.length_nil, List.set_cons_zero, List.set_cons_succ, List.replicate, Nat.sub_self, Nat.zero_add, Nat.reduceAdd, Nat.reduceSub, if_true, if_false, Bool.false_eq_true, Bool.not_true, Bool.not_false, true_and, and_true, reduceIte, startE, Option.some.injEq, Sl.sh.injEq, Sl.own.injEq, oep, oeq, oer, oey, oez, ofa, ofq, ofs, oft, ofu]
    refine hK2 _ (seq_bar fun K3 hK3 => ?_)
    try simp only [oaa, oab, oac, oad, oae, oag, oah, oak, oam, oap, oar, oas, oaw, oay, oaz, oba, obg, obn, obq, obr, obv, ocb, occ, ocd, ocg, ocj, ock, ocn, ocp, ocq, ocr, ocs, oct, odq, odr, ods, odt, odu, odv, List.getElem?_cons_zero, List.getElem?_cons_succ, List.map_cons, List.map_nil, List.cons_append, List.nil_append, List.append_nil, List.length_cons, List.length_nil, List.set_cons_zero, List.set_cons_succ, List.replicate, Nat.sub_self, Nat.zero_add, Nat.reduceAdd, Nat.reduceSub, if_true, if_false, Bool.false_eq_true, Bool.not_true, Bool.not_false, true_and, and_true, reduceIte, startE, Option.some.injEq, Sl.sh.injEq, Sl.own.injEq, oep, oeq, oer, oey, oez, ofa, ofq, ofs, oft, ofu, z3]
    refine ⟨⟨[false, false, true], rfl⟩, [false, false, true], true, rfl, rfl, by decide, by decide, ?_⟩
    have e2 : atI [D.str "InvalidInner", .str "InvalidOuter", .str "NotSides"] ((([false, false, true] : List Bool).idxOf true : Nat) : Int) = some (.str "NotSides") := by rfl
    try simp only [oaa, oab, oac, oad, oae, oag, oah, oak, oam, oap, oar, oas, oaw, oay, oaz, oba, obg, obn, obq, obr, obv, ocb, occ, ocd, ocg, ocj, ock, ocn, ocp, ocq, ocr, ocs, oct, odq, odr, ods, odt, odu, odv, List.getElem?_cons_zero, List.getElem?_cons_succ, List.map_cons, List.map_nil, List.cons_append, List.nil_append, List.append_nil, List.length_cons, List.length_nil, List.set_cons_zero, List.set_cons_succ, List.replicate, Nat.sub_self, Nat.zero_add, Nat.reduceAdd, Nat.reduceSub, if_true, if_false, Bool.false_eq_true, Bool.not_true, Bool.not_false, true_and, and_true, reduceIte, startE, Option.some.injEq, Sl.sh.injEq, Sl.own.injEq, oep, oeq, oer, oey, oez, ofa, ofq, ofs, oft, ofu, v_ixl e2]
    refine hK3 _ (seq_bar fun K4 hK4 => ?_)
    have e3 : atI ([false, false, true].map D.bl) 2 = some (.bl true) := rfl
    try simp only [List.map_cons, List.map_nil] at e3
    try simp only [oaa, oab, oac, oad, oae, oag, oah, oak, oam, oap, oar, oas, oaw, oay, oaz, oba, obg, obn, obq, obr, obv, o_call1q, occ, ocd, ocg, ocj, ock, ocn, ocp, ocq, ocr, ocs, oct, odq, odr, ods, odt, odu, odv, List.getElem?_cons_zero, List.getElem?_cons_succ, List.map_cons, List.map_nil, List.cons_append, List.nil_append, List.append_nil, List.length_cons, List.length_nil, List.set_cons_zero, List.set_cons_succ, List.replicate, Nat.sub_self, Nat.zero_add, Nat.reduceAdd, Nat.reduceSub, if_true, if_false, Bool.false_eq_true, Bool.not_true, Bool.not_false, true_and, and_true, reduceIte, startE, Option.some.injEq, Sl.sh.injEq, Sl.own.injEq, oep, oeq, oer, oey, oez, ofa, ofq, ofs, oft, ofu, v_ixl e3, v_truth_b]
    try rw [if_pos rfl]
    exact ⟨rfl, repr_x hr ⟨z2, rfl, hQ⟩⟩
  · refine dsu_kd rfl (by decide) ?_
    unfold s__law_caught
    refine seq_bar fun K1 hK1 => ?_
    try simp only [oaa, oab, oac, oad, oae, oag, oah, oak, oam, oap, oar, oas, oaw, oay, oaz, oba, obg, obn, obq, obr, obv, ocb, occ, ocd, ocg, ocj, ock, ocn, ocp, ocq, ocr, ocs, oct, odq, odr, ods, odt, odu, odv, List.getElem?_cons_zero, List.getElem?_cons_succ, List.map_cons, List.map_nil, List.cons_append, List.nil_append, List.append_nil, List.length_cons, List.length_nil, List.set_cons_zero, List.set_cons_succ, List.replicate, Nat.sub_self, Nat.zero_add, Nat.reduceAdd, Nat.reduceSub, if_true, if_false, Bool.false_eq_true, Bool.not_true, Bool.not_false, true_and, and_true, reduceIte, startE, Option.some.injEq, Sl.sh.injEq, Sl.own.injEq, oep, oeq, oer, oey, oez, ofa, ofq, ofs, oft, ofu, z3]
    refine ⟨_, rfl, _, rfl, _, rfl, ?_⟩
    refine hK1 _ (seq_bar fun K2 hK2 => if_bar fun A B hA hB => ?_)
    try simp only [oaa, oab, oac, oad, oae, oag, oah, oak, oam, oap, oar, oas, oaw, oay, oaz, oba, obg, obn, obq, obr, obv, ocb, occ, ocd, ocg, ocj, ock, ocn, ocp, ocq, ocr, ocs, oct, odq, odr, ods, odt, odu, odv, List.getElem?_cons_zero, List.getElem?_cons_succ, List.map_cons, List.map_nil, List.cons_append, List.nil_append, List.append_nil, List.length_cons, List.length_nil, List.set_cons_zero, List.set_cons_succ, List.replicate, Nat.sub_self, Nat.zero_add, Nat.reduceAdd, Nat.reduceSub, if_true, if_false, Bool.false_eq_true, Bool.not_true, Bool.not_false, true_and, and_true, reduceIte, startE, Option.some.injEq, Sl.sh.injEq, Sl.own.injEq, oep, oeq, oer, oey, oez, ofa, ofq, ofs, oft, ofu]
    refine ⟨⟨[true, false, false], rfl⟩, [true, false, false], true, rfl, rfl, ?_⟩
    have e1 : (!((((([true, false, false] : List Bool).count true : Nat) : Int)) == 1)) = false := by decide
    try simp only [oaa, oab, oac, oad, oae, oag, oah, oak, oam, oap, oar, oas, oaw, oay, oaz, oba, obg, obn, obq, obr, obv, ocb, occ, ocd, ocg, ocj, ock, ocn, ocp, ocq, ocr, ocs, oct, odq, odr, ods, odt, odu, odv, List.getElem?_cons_zero, List.getElem?_cons_succ, List.map_cons, List.map_nil, List.cons_append, List.nil_append, List.append_nil, List.length_cons, List.length_nil, List.set_cons_zero, List.set_cons_succ, List.replicate, Nat.sub_self, Nat.zero_add, Nat.reduceAdd, Nat.reduceSub, if_true, if_false, Bool.false_eq_true, Bool.not_true, Bool.not_false, true_and, and_true, reduceIte, startE, Option.some.injEq, Sl.sh.injEq, Sl.own.injEq, oep, oeq, oer, oey, oez, ofa, ofq, ofs, oft, ofu, v_nei, e1]
    refine ⟨_, rfl, ?_⟩
    try simp only [oaa, oab, oac, oad, oae, oag, oah, oak, oam, oap, oar, oas, oaw, oay, oaz, oba, obg, obn, obq, obr, obv, ocb, occ, ocd, ocg, ocj, ock, ocn, ocp, ocq, ocr, ocs, oct, odq, odr, ods, odt, odu, odv, List.getElem?_cons_zero, List.getElem?_cons_succ, List.map_cons, List.map_nil, List.cons_append, List.nil_append, List.append_nil, List.length_cons, List.length_nil, List.set_cons_zero, List.set_cons_succ, List.replicate, Nat.sub_self, Nat.zero_add, Nat.reduceAdd, Nat.reduceSub, if_true, if_false, Bool.false_eq_true, Bool.not_true, Bool.not_false, true_and, and_true, reduceIte, startE, Option.some.injEq, Sl.sh.injEq, Sl.own.injEq, oep, oeq, oer, oey, oez, ofa, ofq, ofs, oft, ofu, v_truth_b]
    refine hB _ ?_
    try simp only [oaa, oab, oac, oad, oae, oag, oah, oak, oam, oap, oar, oas, oaw, oay, oaz, oba, obg, obn, obq, obr, obv, ocb, occ, ocd, ocg, ocj, ock, ocn, ocp, ocq, ocr, ocs, oct, odq, odr, ods, odt, odu, odv, List.getElem?_cons_zero, List.getElem?_cons_succ, List.map_cons, List.map_nil, List.cons_append, List.nil_append, List.append_nil, List.length_cons, List.length_nil, List.set_cons_zero, List.set_cons_succ, List.replicate, Nat.sub_self, Nat.zero_add, Nat.reduceAdd, Nat.reduceSub, if_true, if_false, Bool.false_eq_true, Bool.not_true, Bool.not_false, true_and, and_true, reduceIte, startE, Option.some.injEq, Sl.sh.injEq, Sl.own.injEq, oep, oeq, oer, oey, oez, ofa, ofq, ofs, oft, ofu]
    refine hK2 _ (seq_bar fun K3 hK3 => ?_)
    try simp only [oaa, oab, oac, oad, oae, oag, oah, oak, oam, oap, oar, oas, oaw, oay, oaz, oba, obg, obn, obq, obr, obv, ocb, occ, ocd, ocg, ocj, ock, ocn, ocp, ocq, ocr, ocs, oct, odq, odr, ods, odt, odu, odv, List.getElem?_cons_zero, List.getElem?_cons_succ, List.map_cons, List.map_nil, List.cons_append, List.nil_append, List.append_nil, List.length_cons, List.length_nil, List.set_cons_zero, List.set_cons_succ, List.replicate, Nat.sub_self, Nat.zero_add, Nat.reduceAdd, Nat.reduceSub, if_true, if_false, Bool.false_eq_true, Bool.not_true, Bool.not_false, true_and, and_true, reduceIte, startE, Option.some.injEq, Sl.sh.injEq, Sl.own.injEq, oep, oeq, oer, oey, oez, ofa, ofq, ofs, oft, ofu, z3]
    refine ⟨⟨[true, false, false], rfl⟩, [true, false, false], true, rfl, rfl, by decide, by decide, ?_⟩
    have e2 : atI [D.str "InvalidInner", .str "InvalidOuter", .str "NotSides"] ((([true, false, false] : List Bool).idxOf true : Nat) : Int) = some (.str "InvalidInner") := by rfl
    try simp only [oaa, oab, oac, oad, oae, oag, oah, oak, oam, oap, oar, oas, oaw, oay, oaz, oba, obg, obn, obq, obr, obv, ocb, occ, ocd, ocg, ocj, ock, ocn, ocp, ocq, ocr, ocs, oct, odq, odr, ods, odt, odu, odv, List.getElem?_cons_zero, List.getElem?_cons_succ, List.map_cons, List.map_nil, List.cons_append, List.nil_append, List.append_nil, List.length_cons, List.length_nil, List.set_cons_zero, List.set_cons_succ, List.replicate, Nat.sub_self, Nat.zero_add, Nat.reduceAdd, Nat.reduceSub, if_true, if_false, Bool.false_eq_true, Bool.not_true, Bool.not_false, true_and, and_true, reduceIte, startE, Option.some.injEq, Sl.sh.injEq, Sl.own.injEq, oep, oeq, oer, oey, oez, ofa, ofq, ofs, oft, ofu, v_ixl e2]
    refine hK3 _ (seq_bar fun K4 hK4 => ?_)
    have e3 : atI ([true, false, false].map D.bl) 2 = some (.bl false) := rfl
    try simp only [List.map_cons, List.map_nil] at e3
    try simp only [oaa, oab, oac, oad, oae, oag, oah, oak, oam, oap, oar, oas, oaw, oay, oaz, oba, obg, obn, obq, obr, obv, o_call1q, occ, ocd, ocg, ocj, ock, ocn, ocp, ocq, ocr, ocs, oct, odq, odr, ods, odt, odu, odv, List.getElem?_cons_zero, List.getElem?_cons_succ, List.map_cons, List.map_nil, List.cons_append, List.nil_append, List.append_nil, List.length_cons, List.length_nil, List.set_cons_zero, List.set_cons_succ, List.replicate, Nat.sub_self, Nat.zero_add, Nat.reduceAdd, Nat.reduceSub, if_true, if_false, Bool.false_eq_true, Bool.not_true, Bool.not_false, true_and, and_true, reduceIte, startE, Option.some.injEq, Sl.sh.injEq, Sl.own.injEq, oep, oeq, oer, oey, oez, ofa, ofq, ofs, oft, ofu, v_ixl e3, v_truth_b]
    try rw [if_neg (by decide)]
    exact ⟨rfl, repr_x hr ⟨z2, rfl, hQ⟩⟩
  · refine dsu_kd rfl (by decide) ?_
    unfold s__law_caught
    refine seq_bar fun K1 hK1 => ?_
    try simp only [oaa, oab, oac, oad, oae, oag, oah, oak, oam, oap, oar, oas, oaw, oay, oaz, oba, obg, obn, obq, obr, obv, ocb, occ, ocd, ocg, ocj, ock, ocn, ocp, ocq, ocr, ocs, oct, odq, odr, ods, odt, odu, odv, List.getElem?_cons_zero, List.getElem?_cons_succ, List.map_cons, List.map_nil, List.cons_append, List.nil_append, List.append_nil, List.length_cons, List.length_nil, List.set_cons_zero, List.set_cons_succ, List.replicate, Nat.sub_self, Nat.zero_add, Nat.reduceAdd, Nat.reduceSub, if_true, if_false, Bool.false_eq_true, Bool.not_true, Bool.not_false, true_and, and_true, reduceIte, startE, Option.some.injEq, Sl.sh.injEq, Sl.own.injEq, oep, oeq, oer, oey, oez, ofa, ofq, ofs, oft, ofu, z3]
    refine ⟨_, rfl, _, rfl, _, rfl, ?_⟩
    refine hK1 _ (seq_bar fun K2 hK2 => if_bar fun A B hA hB => ?_)
    try simp only [oaa, oab, oac, oad, oae, oag, oah, oak, oam, oap, oar, oas, oaw, oay, oaz, oba, obg, obn, obq, obr, obv, ocb, occ, ocd, ocg, ocj, ock, ocn, ocp, ocq, ocr, ocs, oct, odq, odr, ods, odt, odu, odv, List.getElem?_cons_zero, List.getElem?_cons_succ, List.map_cons, List.map_nil, List.cons_append, List.nil_append, List.append_nil, List.length_cons, List.length_nil, List.set_cons_zero, List.set_cons_succ, List.replicate, Nat.sub_self, Nat.zero_add, Nat.reduceAdd, Nat.reduceSub, if_true, if_false, Bool.false_eq_true, Bool.not_true, Bool.not_false, true_and, and_true, reduceIte, startE, Option.some.injEq, Sl.sh.injEq, Sl.own.injEq, oep, oeq, oer, oey, oez, ofa, ofq, ofs, oft, ofu]
    refine ⟨⟨[false, true, false], rfl⟩, [false, true, false], true, rfl, rfl, ?_⟩
    have e1 : (!((((([false, true, false] : List Bool).count true : Nat) : Int)) == 1)) = false := by decide
    try simp only [oaa, oab, oac, oad, oae, oag, oah, oak, oam, oap, oar, oas, oaw, oay, oaz, oba, obg, obn, obq, obr, obv, ocb, occ, ocd, ocg, ocj, ock, ocn, ocp, ocq, ocr, ocs, oct, odq, odr, ods, odt, odu, odv, List.getElem?_cons_zero, List.getElem?_cons_succ, List.map_cons, List.map_nil, List.cons_append, List.nil_append, List.append_nil, List.length_cons, List.length_nil, List.set_cons_zero, List.set_cons_succ, List.replicate, Nat.sub_self, Nat.zero_add, Nat.reduceAdd, Nat.reduceSub, if_true, if_false, Bool.false_eq_true, Bool.not_true, Bool.not_false, true_and, and_true, reduceIte, startE, Option.some.injEq, Sl.sh.injEq, Sl.own.injEq, oep, oeq, oer, oey, oez, ofa, ofq, ofs, oft, ofu, v_nei, e1]
    refine ⟨_, rfl, ?_⟩
    try simp only [oaa, oab, oac, oad, oae, oag, oah, oak, oam, oap, oar, oas, oaw, oay, oaz, oba, obg, obn, obq, obr, obv, ocb, occ, ocd, ocg, ocj, ock, ocn, ocp, ocq, ocr, ocs, oct, odq, odr, ods, odt, odu, odv, List.getElem?_cons_zero, List.getElem?_cons_succ, List.map_cons, List.map_nil, List.cons_append, List.nil_append, List.append_nil, List.length_cons, List.length_nil, List.set_cons_zero, List.set_cons_succ, List.replicate, Nat.sub_self, Nat.zero_add, Nat.reduceAdd, Nat.reduceSub, if_true, if_false, Bool.false_eq_true, Bool.not_true, Bool.not_false, true_and, and_true, reduceIte, startE, Option.some.injEq, Sl.sh.injEq, Sl.own.injEq, oep, oeq, oer, oey, oez, ofa, ofq, ofs, oft, ofu, v_truth_b]
    refine hB _ ?_
    try simp only [oaa, oab, oac, oad, oae, oag, oah, oak, oam, oap, oar, oas, oaw, oay, oaz, oba, obg, obn, obq, obr, obv, ocb, occ, ocd, ocg, ocj, ock, ocn, ocp, ocq, ocr, ocs, oct, odq, odr, ods, odt, odu, odv, List.getElem?_cons_zero, List.getElem?_cons_succ, List.map_cons, List.map_nil, List.cons_append, List.nil_append, List.append_nil, List.length_cons, List.length_nil, List.set_cons_zero, List.set_cons_succ, List.replicate, Nat.sub_self, Nat.zero_add, Nat.reduceAdd, Nat.reduceSub, if_true, if_false, Bool.false_eq_true, Bool.not_true, Bool.not_false, true_and, and_true, reduceIte, startE, Option.some.injEq, Sl.sh.injEq, Sl.own.injEq, oep, oeq, oer, oey, oez, ofa, ofq, ofs, oft, ofu]
    refine hK2 _ (seq_bar fun K3 hK3 => ?_)
    try simp only [oaa, oab, oac, oad, oae, oag, oah, oak, oam, oap, oar, oas, oaw, oay, oaz, oba, obg, obn, obq, obr, obv, ocb, occ, ocd, ocg, ocj, ock, ocn, ocp, ocq, ocr, ocs, oct, odq, odr, ods, odt, odu, odv, List.getElem?_cons_zero, List.getElem?_cons_succ, List.map_cons, List.map_nil, List.cons_append, List.nil_append, List.append_nil, List.length_cons, List.length_nil, List.set_cons_zero, List.set_cons_succ, List.replicate, Nat.sub_self, Nat.zero_add, Nat.reduceAdd, Nat.reduceSub, if_true, if_false, Bool.false_eq_true, Bool.not_true, Bool.not_false, true_and, and_true, reduceIte, startE, Option.some.injEq, Sl.sh.injEq, Sl.own.injEq, oep, oeq, oer, oey, oez, ofa, ofq, ofs, oft, ofu, z3]
    refine ⟨⟨[false, true, false], rfl⟩, [false, true, false], true, rfl, rfl, by decide, by decide, ?_⟩
    have e2 : atI [D.str "InvalidInner", .str "InvalidOuter", .str "NotSides"] ((([false, true, false] : List Bool).idxOf true : Nat) : Int) = some (.str "InvalidOuter") := by rfl
    try simp only [oaa, oab, oac, oad, oae, oag, oah, oak, oam, oap, oar, oas, oaw, oay, oaz, oba, obg, obn, obq, obr, obv, ocb, occ, ocd, ocg, ocj, ock, ocn, ocp, ocq, ocr, ocs, oct, odq, odr, ods, odt, odu, odv, List.getElem?_cons_zero, List.getElem?_cons_succ, List.map_cons, List.map_nil, List.cons_append, List.nil_append, List.append_nil, List.length_cons, List.length_nil, List.set_cons_zero, List.set_cons_succ, List.replicate, Nat.sub_self, Nat.zero_add, Nat.reduceAdd, Nat.reduceSub, if_true, if_false, Bool.false_eq_true, Bool.not_true, Bool.not_false, true_and, and_true, reduceIte, startE, Option.some.injEq, Sl.sh.injEq, Sl.own.injEq, oep, oeq, oer, oey, oez, ofa, ofq, ofs, oft, ofu, v_ixl e2]
    refine hK3 _ (seq_bar fun K4 hK4 => ?_)
    have e3 : atI ([false, true, false].map D.bl) 2 = some (.bl false) := rfl
    try simp only [List.map_cons, List.map_nil] at e3
    try simp only [oaa, oab, oac, oad, oae, oag, oah, oak, oam, oap, oar, oas, oaw, oay, oaz, oba, obg, obn, obq, obr, obv, o_call1q, occ, ocd, ocg, ocj, ock, ocn, ocp, ocq, ocr, ocs, oct, odq, odr, ods, odt, odu, odv, List.getElem?_cons_zero, List.getElem?_cons_succ, List.map_cons, List.map_nil, List.cons_append, List.nil_append, List.append_nil, List.length_cons, List.length_nil, List.set_cons_zero, List.set_cons_succ, List.replicate, Nat.sub_self, Nat.zero_add, Nat.reduceAdd, Nat.reduceSub, if_true, if_false, Bool.false_eq_true, Bool.not_true, Bool.not_false, true_and, and_true, reduceIte, startE, Option.some.injEq, Sl.sh.injEq, Sl.own.injEq, oep, oeq, oer, oey, oez, ofa, ofq, ofs, oft, ofu, v_ixl e3, v_truth_b]
    try rw [if_neg (by decide)]
    exact ⟨rfl, repr_x hr ⟨z2, rfl, hQ⟩⟩

def intQ : D → Option Bool
  | .int _ => some true
  | .bl _ => some false
  | .non => some false
  | .str _ => some false
  | .tup _ => some false
  | .lst _ => some false
  | .dic _ => some false
  | _ => none
def sp_is_integer : Sps := fun ds Qd _ => ∃ d b, ds = [d] ∧ intQ d = some b ∧ Qd (.bl b) false
def r_is_integer (T : Tx) : RS :=
  (sSeq (sRet (dAndV (dIsi (kindD bInt obLow) (dVar 0)) (dNotV (dIsi (kindD bBool obLow) (dVar 0))))) sNext)
theorem pure_is_integer (T : Tx) : ∀ ds Qd xd, ds.length = 1 → sp_is_integer ds Qd xd → r_is_integer T (kdOf Qd xd) (startE (["value"] : List Str) ds) := by
  rintro _ Qd xd _ ⟨d, b, rfl, hb, q⟩
  cases d <;> cases hb <;> simpa [r_is_integer, startE, kindD] using q

def cntQ : D → Option Bool
  | .int i => some (decide (0 ≤ i))
  | d => intQ d
def sp_is_count : Sps := fun ds Qd _ => ∃ d b, ds = [d] ∧ cntQ d = some b ∧ Qd (.bl b) false
def r_is_count (T : Tx) : RS :=
  (sSeq (sRet (dAndV (dOwn 1 sp_is_integer (dPos 1 (dCons (dVar 0) dNil))) (dOp fGe (dVar 0) (dC (.int 0))))) sNext)
theorem pure_is_count (T : Tx) : ∀ ds Qd xd, ds.length = 1 → sp_is_count ds Qd xd → r_is_count T (kdOf Qd xd) (startE (["value"] : List Str) ds) := by
  rintro _ Qd xd _ ⟨d, b, rfl, hb, q⟩
  cases d <;> cases hb <;> simpa [r_is_count, startE, sp_is_integer, intQ, fOrd] using q

def sp_is_kind : Sps := fun ds Qd _ => ∃ d b e, ds = [d, e] ∧ plainD d = true ∧ (b = none ∧ e = .non ∨ ∃ q : Int × Int, b = some q.1 ∧ e = pD q) ∧ Qd (.bl (kindB d b)) false
def cntB : D → Bool
  | .int i => decide (0 ≤ i)
  | _ => false
theorem plain_intQ {d : D} (h : plainD d = true) : ∃ b, intQ d = some b ∧ cntQ d = some (cntB d) ∧ (b = true ↔ ∃ i, d = .int i) := by
  cases d <;> first | exact (Bool.noConfusion (show false = true from h)) | exact ⟨_, rfl, rfl, by simp⟩
def r_is_kind (T : Tx) : RS :=
  (sSeq (sIf (dOr (dNot (dTruth (dIsi (kindD bTup obLow) (dVar 0)))) (dOr (dTest (dOp fNe (dCall fLen (dConsB (dVar 0) dNil)) (dC (.int 2)))) (dOr (dNot (dTruth (dOwn 1 sp_is_count (dPos 1 (dCons (dOp fIxA (dVar 0) (dC (.int 0))) dNil))))) (dTest (dOp fGt (dOp fIxA (dVar 0) (dC (.int 0))) (dC (.int 10000000000000000000000000000000))))))) (sSeq (sRet (dC (.bl false))) sNext) sNext) (sSeq (sIf (dOr (dNot (dTruth (dOwn 1 sp_is_integer (dPos 1 (dCons (dOp fIxA (dVar 0) (dC (.int 1))) dNil))))) (dNot (dTest (dChain fLe fLe (dC (.int 1)) (dOp fIxA (dVar 0) (dC (.int 1))) (dC (.int 1000000000000000000000000000000)))))) (sSeq (sRet (dC (.bl false))) sNext) sNext) (sSeq (sRet (dOrV (dOp (fIsN fun b => b) (dVar 1) (dC .non)) (dOp fLt (dOp fIxA (dVar 0) (dC (.int 0))) (dOp fIxA (dVar 1) (dC (.int 0)))))) sNext)))
theorem pure_is_kind (T : Tx) : ∀ ds Qd xd, ds.length = 2 → sp_is_kind ds Qd xd → r_is_kind T (kdOf Qd xd) (startE (["value", "before"] : List Str) ds) := by
  rintro _ Qd xd _ ⟨d, b, e, rfl, hd, hb, q⟩
  have nok : kndP d = none → Qd (.bl false) false := fun h => by
    have : kindB d b = false := by unfold kindB; rw [h]
    rw [this] at q; exact q
  have other : (∀ xs, d ≠ .tup xs) → Qd (.bl false) false ∧ kindD bTup obLow d = some false := fun h => by
    refine ⟨nok ?_, ?_⟩
    · unfold kndP
      split
      · exact (h _ rfl).elim
      · rfl
    · cases d <;> first | exact (Bool.noConfusion (show false = true from hd)) | rfl | exact (h _ rfl).elim
  by_cases ht : ∃ xs, d = .tup xs
  case neg =>
    obtain ⟨q0, k0⟩ := other fun xs e => ht ⟨xs, e⟩
    simp only [r_is_kind, oaa, oab, oac, oad, oae, oag, oah, oai, oak, oam, oaq, oas, oau, oaw, oay, oaz, oba, obc, obd, obe, obg, obn, obq, obr, obv, obw, occ, ocd, ocg, ocj, ocn, ocp, ocq, ocr, ocs, oct, odq, odr, ods, odt, odu, odv, List.getElem?_cons_zero, List.getElem?_cons_succ, List.map_cons, List.map_nil, List.cons_append, List.nil_append, List.append_nil, List.length_cons, List.length_nil, List.set_cons_zero, List.set_cons_succ, List.replicate, Nat.sub_self, Nat.zero_add, Nat.reduceAdd, Nat.reduceSub, if_true, if_false, Bool.false_eq_true, Bool.not_true, Bool.not_false, true_and, and_true, reduceIte, startE, Option.some.injEq, Sl.sh.injEq, Sl.own.injEq, oey, oez, ofa, ofs, oft, ofu, k0, exists_eq_left', v_truth_b]
    exact q0
  obtain ⟨xs, rfl⟩ := ht
  have kt : kindD bTup obLow (.tup xs) = some true := rfl
  match xs, hd, q, nok, kt with
  | [], hd, q, nok, kt =>
    have e1 : (((([] : List D).length : Nat) : Int) == 2) = false := rfl
    simp only [r_is_kind, oaa, oab, oac, oad, oae, oag, oah, oai, oak, oam, oaq, oas, oau, oaw, oay, oaz, oba, obc, obd, obe, obg, obn, obq, obr, obv, obw, occ, ocd, ocg, ocj, ocn, ocp, ocq, ocr, ocs, oct, odq, odr, ods, odt, odu, odv, List.getElem?_cons_zero, List.getElem?_cons_succ, List.map_cons, List.map_nil, List.cons_append, List.nil_append, List.append_nil, List.length_cons, List.length_nil, List.set_cons_zero, List.set_cons_succ, List.replicate, Nat.sub_self, Nat.zero_add, Nat.reduceAdd, Nat.reduceSub, if_true, if_false, Bool.false_eq_true, Bool.not_true, Bool.not_false, true_and, and_true, reduceIte, startE, Option.some.injEq, Sl.sh.injEq, Sl.own.injEq, oey, oez, ofa, ofs, oft, ofu, kt, exists_eq_left', v_truth_b, v_lent, v_nei, e1]
    exact nok rfl
  | [a], hd, q, nok, kt =>
    have e1 : (((([a] : List D).length : Nat) : Int) == 2) = false := rfl
    simp only [List.length_cons, List.length_nil] at e1
    simp only [r_is_kind, oaa, oab, oac, oad, oae, oag, oah, oai, oak, oam, oaq, oas, oau, oaw, oay, oaz, oba, obc, obd, obe, obg, obn, obq, obr, obv, obw, occ, ocd, ocg, ocj, ocn, ocp, ocq, ocr, ocs, oct, odq, odr, ods, odt, odu, odv, List.getElem?_cons_zero, List.getElem?_cons_succ, List.map_cons, List.map_nil, List.cons_append, List.nil_append, List.append_nil, List.length_cons, List.length_nil, List.set_cons_zero, List.set_cons_succ, List.replicate, Nat.sub_self, Nat.zero_add, Nat.reduceAdd, Nat.reduceSub, if_true, if_false, Bool.false_eq_true, Bool.not_true, Bool.not_false, true_and, and_true, reduceIte, startE, Option.some.injEq, Sl.sh.injEq, Sl.own.injEq, oey, oez, ofa, ofs, oft, ofu, kt, exists_eq_left', v_truth_b, v_lent, v_nei, e1]
    exact nok (by cases a <;> rfl)
  | a :: c :: f :: r, hd, q, nok, kt =>
    have e1 : ((((a :: c :: f :: r : List D).length : Nat) : Int) == 2) = false := beq_eq_false_iff_ne.mpr (by simp only [List.length_cons]; omega)
    simp only [List.length_cons] at e1
    simp only [r_is_kind, oaa, oab, oac, oad, oae, oag, oah, oai, oak, oam, oaq, oas, oau, oaw, oay, oaz, oba, obc, obd, obe, obg, obn, obq, obr, obv, obw, occ, ocd, ocg, ocj, ocn, ocp, ocq, ocr, ocs, oct, odq, odr, ods, odt, odu, odv, List.getElem?_cons_zero, List.getElem?_cons_succ, List.map_cons, List.map_nil, List.cons_append, List.nil_append, List.append_nil, List.length_cons, List.length_nil, List.set_cons_zero, List.set_cons_succ, List.replicate, Nat.sub_self, Nat.zero_add, Nat.reduceAdd, Nat.reduceSub, if_true, if_false, Bool.false_eq_true, Bool.not_true, Bool.not_false, true_and, and_true, reduceIte, startE, Option.some.injEq, Sl.sh.injEq, Sl.own.injEq, oey, oez, ofa, ofs, oft, ofu, kt, exists_eq_left', v_truth_b, v_lent, v_nei, e1]
    exact nok (by cases a <;> cases c <;> rfl)
  | [a, c], hd, q, nok, kt =>
    have e1 : (((2 : Nat) : Int) == (2 : Int)) = true := rfl
    simp only [plain_t, plains_c, plains_n, Bool.and_true, Bool.and_eq_true] at hd
    obtain ⟨ba, ia, ca, _⟩ := plain_intQ hd.1
    obtain ⟨bc, ic, _, hbc⟩ := plain_intQ hd.2
    simp only [r_is_kind, oaa, oab, oac, oad, oae, oag, oah, oai, oak, oam, oaq, oas, oau, oaw, oay, oaz, oba, obc, obd, obe, obg, obn, obq, obr, obv, obw, occ, ocd, ocg, ocj, ocn, ocp, ocq, ocr, ocs, oct, odq, odr, ods, odt, odu, odv, List.getElem?_cons_zero, List.getElem?_cons_succ, List.map_cons, List.map_nil, List.cons_append, List.nil_append, List.append_nil, List.length_cons, List.length_nil, List.set_cons_zero, List.set_cons_succ, List.replicate, Nat.sub_self, Nat.zero_add, Nat.reduceAdd, Nat.reduceSub, if_true, if_false, Bool.false_eq_true, Bool.not_true, Bool.not_false, true_and, and_true, reduceIte, startE, Option.some.injEq, Sl.sh.injEq, Sl.own.injEq, oey, oez, ofa, ofs, oft, ofu, kt, exists_eq_left', v_truth_b, v_lent, v_nei, e1, v_ixt0, v_ixt1, sp_is_count, sp_is_integer]
    refine ⟨a, _, rfl, ca, ?_⟩
    by_cases ha : ∃ i, a = .int i
    case neg =>
      have : cntB a = false := by
        cases a <;> first | rfl | exact (ha ⟨_, rfl⟩).elim
      rw [this]
      simp only [oaa, oab, oac, oad, oae, oag, oah, oai, oak, oam, oaq, oas, oau, oaw, oay, oaz, oba, obc, obd, obe, obg, obn, obq, obr, obv, obw, occ, ocd, ocg, ocj, ocn, ocp, ocq, ocr, ocs, oct, odq, odr, ods, odt, odu, odv, List.getElem?_cons_zero, List.getElem?_cons_succ, List.map_cons, List.map_nil, List.cons_append, List.nil_append, List.append_nil, List.length_cons, List.length_nil, List.set_cons_zero, List.set_cons_succ, List.replicate, Nat.sub_self, Nat.zero_add, Nat.reduceAdd, Nat.reduceSub, if_true, if_false, Bool.false_eq_true, Bool.not_true, Bool.not_false, true_and, and_true, reduceIte, startE, Option.some.injEq, Sl.sh.injEq, Sl.own.injEq, oey, oez, ofa, ofs, oft, ofu, v_truth_b]
      exact nok (by cases a <;> first | rfl | exact (ha ⟨_, rfl⟩).elim)
    obtain ⟨i, rfl⟩ := ha
    have ec : cntB (.int i) = decide (0 ≤ i) := rfl
    rw [ec]
    have q1 : ¬ (0 ≤ i ∧ i ≤ 10 ^ 31) → Qd (.bl false) false := fun h => nok (by
      by_cases hc : ∃ j, c = .int j
      · obtain ⟨j, rfl⟩ := hc
        show (if KindOk (i, j) then some (i, j) else none) = none
        exact if_neg fun k => h ⟨k.1, k.2.1⟩
      · cases c <;> first | rfl | exact (hc ⟨_, rfl⟩).elim)
    by_cases c1 : 0 ≤ i
    case neg =>
      simp only [oaa, oab, oac, oad, oae, oag, oah, oai, oak, oam, oaq, oas, oau, oaw, oay, oaz, oba, obc, obd, obe, obg, obn, obq, obr, obv, obw, occ, ocd, ocg, ocj, ocn, ocp, ocq, ocr, ocs, oct, odq, odr, ods, odt, odu, odv, List.getElem?_cons_zero, List.getElem?_cons_succ, List.map_cons, List.map_nil, List.cons_append, List.nil_append, List.append_nil, List.length_cons, List.length_nil, List.set_cons_zero, List.set_cons_succ, List.replicate, Nat.sub_self, Nat.zero_add, Nat.reduceAdd, Nat.reduceSub, if_true, if_false, Bool.false_eq_true, Bool.not_true, Bool.not_false, true_and, and_true, reduceIte, startE, Option.some.injEq, Sl.sh.injEq, Sl.own.injEq, oey, oez, ofa, ofs, oft, ofu, v_truth_b, c1, decide_false]
      exact q1 fun h => c1 h.1
    by_cases c2 : (10000000000000000000000000000000 : Int) < i
    · simp only [oaa, oab, oac, oad, oae, oag, oah, oai, oak, oam, oaq, oas, oau, oaw, oay, oaz, oba, obc, obd, obe, obg, obn, obq, obr, obv, obw, occ, ocd, ocg, ocj, ocn, ocp, ocq, ocr, ocs, oct, odq, odr, ods, odt, odu, odv, List.getElem?_cons_zero, List.getElem?_cons_succ, List.map_cons, List.map_nil, List.cons_append, List.nil_append, List.append_nil, List.length_cons, List.length_nil, List.set_cons_zero, List.set_cons_succ, List.replicate, Nat.sub_self, Nat.zero_add, Nat.reduceAdd, Nat.reduceSub, if_true, if_false, Bool.false_eq_true, Bool.not_true, Bool.not_false, true_and, and_true, reduceIte, startE, Option.some.injEq, Sl.sh.injEq, Sl.own.injEq, oey, oez, ofa, ofs, oft, ofu, v_truth_b, c1, decide_true, v_ord, c2]
      exact q1 fun h => by have := h.2; omega
    simp only [oaa, oab, oac, oad, oae, oag, oah, oai, oak, oam, oaq, oas, oau, oaw, oay, oaz, oba, obc, obd, obe, obg, obn, obq, obr, obv, obw, occ, ocd, ocg, ocj, ocn, ocp, ocq, ocr, ocs, oct, odq, odr, ods, odt, odu, odv, List.getElem?_cons_zero, List.getElem?_cons_succ, List.map_cons, List.map_nil, List.cons_append, List.nil_append, List.append_nil, List.length_cons, List.length_nil, List.set_cons_zero, List.set_cons_succ, List.replicate, Nat.sub_self, Nat.zero_add, Nat.reduceAdd, Nat.reduceSub, if_true, if_false, Bool.false_eq_true, Bool.not_true, Bool.not_false, true_and, and_true, reduceIte, startE, Option.some.injEq, Sl.sh.injEq, Sl.own.injEq, oey, oez, ofa, ofs, oft, ofu, v_truth_b, c1, decide_true, v_ord, c2, decide_false]
    refine ⟨c, _, rfl, ic, ?_⟩
    by_cases hc : ∃ j, c = .int j
    case neg =>
      have : bc = false := Bool.eq_false_iff.mpr fun z => hc (hbc.mp z)
      rw [this]
      simp only [oaa, oab, oac, oad, oae, oag, oah, oai, oak, oam, oaq, oas, oau, oaw, oay, oaz, oba, obc, obd, obe, obg, obn, obq, obr, obv, obw, occ, ocd, ocg, ocj, ocn, ocp, ocq, ocr, ocs, oct, odq, odr, ods, odt, odu, odv, List.getElem?_cons_zero, List.getElem?_cons_succ, List.map_cons, List.map_nil, List.cons_append, List.nil_append, List.append_nil, List.length_cons, List.length_nil, List.set_cons_zero, List.set_cons_succ, List.replicate, Nat.sub_self, Nat.zero_add, Nat.reduceAdd, Nat.reduceSub, if_true, if_false, Bool.false_eq_true, Bool.not_true, Bool.not_false, true_and, and_true, reduceIte, startE, Option.some.injEq, Sl.sh.injEq, Sl.own.injEq, oey, oez, ofa, ofs, oft, ofu, v_truth_b]
      exact nok (by cases c <;> first | rfl | exact (hc ⟨_, rfl⟩).elim)
    obtain ⟨j, rfl⟩ := hc
    cases ic
    have q2 : ¬ (1 ≤ j ∧ j ≤ 10 ^ 30) → Qd (.bl false) false := fun h => nok (by
      show (if KindOk (i, j) then some (i, j) else none) = none
      exact if_neg fun k => h ⟨k.2.2.1, k.2.2.2⟩)
    by_cases c3 : 1 ≤ j
    case neg =>
      simp only [oaa, oab, oac, oad, oae, oag, oah, oai, oak, oam, oaq, oas, oau, oaw, oay, oaz, oba, obc, obd, obe, obg, obn, obq, obr, obv, obw, occ, ocd, ocg, ocj, ocn, ocp, ocq, ocr, ocs, oct, odq, odr, ods, odt, odu, odv, List.getElem?_cons_zero, List.getElem?_cons_succ, List.map_cons, List.map_nil, List.cons_append, List.nil_append, List.append_nil, List.length_cons, List.length_nil, List.set_cons_zero, List.set_cons_succ, List.replicate, Nat.sub_self, Nat.zero_add, Nat.reduceAdd, Nat.reduceSub, if_true, if_false, Bool.false_eq_true, Bool.not_true, Bool.not_false, true_and, and_true, reduceIte, startE, Option.some.injEq, Sl.sh.injEq, Sl.own.injEq, oey, oez, ofa, ofs, oft, ofu, v_truth_b, v_ord, c3, decide_false]
      exact q2 fun h => c3 h.1
    by_cases c4 : j ≤ (1000000000000000000000000000000 : Int)
    case neg =>
      simp only [oaa, oab, oac, oad, oae, oag, oah, oai, oak, oam, oaq, oas, oau, oaw, oay, oaz, oba, obc, obd, obe, obg, obn, obq, obr, obv, obw, occ, ocd, ocg, ocj, ocn, ocp, ocq, ocr, ocs, oct, odq, odr, ods, odt, odu, odv, List.getElem?_cons_zero, List.getElem?_cons_succ, List.map_cons, List.map_nil, List.cons_append, List.nil_append, List.append_nil, List.length_cons, List.length_nil, List.set_cons_zero, List.set_cons_succ, List.replicate, Nat.sub_self, Nat.zero_add, Nat.reduceAdd, Nat.reduceSub, if_true, if_false, Bool.false_eq_true, Bool.not_true, Bool.not_false, true_and, and_true, reduceIte, startE, Option.some.injEq, Sl.sh.injEq, Sl.own.injEq, oey, oez, ofa, ofs, oft, ofu, v_truth_b, v_ord, c3, decide_true, c4, decide_false]
      exact q2 fun h => by have := h.2; omega
    have kp : kndP (.tup [.int i, .int j]) = some (i, j) := by
      show (if KindOk (i, j) then some (i, j) else none) = some (i, j)
      exact if_pos ⟨c1, by show i ≤ 10 ^ 31; omega, c3, by show j ≤ 10 ^ 30; omega⟩
    simp only [oaa, oab, oac, oad, oae, oag, oah, oai, oak, oam, oaq, oas, oau, oaw, oay, oaz, oba, obc, obd, obe, obg, obn, obq, obr, obv, obw, occ, ocd, ocg, ocj, ocn, ocp, ocq, ocr, ocs, oct, odq, odr, ods, odt, odu, odv, List.getElem?_cons_zero, List.getElem?_cons_succ, List.map_cons, List.map_nil, List.cons_append, List.nil_append, List.append_nil, List.length_cons, List.length_nil, List.set_cons_zero, List.set_cons_succ, List.replicate, Nat.sub_self, Nat.zero_add, Nat.reduceAdd, Nat.reduceSub, if_true, if_false, Bool.false_eq_true, Bool.not_true, Bool.not_false, true_and, and_true, reduceIte, startE, Option.some.injEq, Sl.sh.injEq, Sl.own.injEq, oey, oez, ofa, ofs, oft, ofu, v_truth_b, v_ord, c3, decide_true, c4, v_is]
    unfold kindB at q
    rw [kp] at q
    rcases hb with ⟨rfl, rfl⟩ | ⟨z, rfl, rfl⟩
    · simp only [oaa, oab, oac, oad, oae, oag, oah, oai, oak, oam, oaq, oas, oau, oaw, oay, oaz, oba, obc, obd, obe, obg, obn, obq, obr, obv, obw, occ, ocd, ocg, ocj, ocn, ocp, ocq, ocr, ocs, oct, odq, odr, ods, odt, odu, odv, List.getElem?_cons_zero, List.getElem?_cons_succ, List.map_cons, List.map_nil, List.cons_append, List.nil_append, List.append_nil, List.length_cons, List.length_nil, List.set_cons_zero, List.set_cons_succ, List.replicate, Nat.sub_self, Nat.zero_add, Nat.reduceAdd, Nat.reduceSub, if_true, if_false, Bool.false_eq_true, Bool.not_true, Bool.not_false, true_and, and_true, reduceIte, startE, Option.some.injEq, Sl.sh.injEq, Sl.own.injEq, oey, oez, ofa, ofs, oft, ofu, v_nonN]
      exact q
    · simp only [oaa, oab, oac, oad, oae, oag, oah, oai, oak, oam, oaq, oas, oau, oaw, oay, oaz, oba, obc, obd, obe, obg, obn, obq, obr, obv, obw, occ, ocd, ocg, ocj, ocn, ocp, ocq, ocr, ocs, oct, odq, odr, ods, odt, odu, odv, List.getElem?_cons_zero, List.getElem?_cons_succ, List.map_cons, List.map_nil, List.cons_append, List.nil_append, List.append_nil, List.length_cons, List.length_nil, List.set_cons_zero, List.set_cons_succ, List.replicate, Nat.sub_self, Nat.zero_add, Nat.reduceAdd, Nat.reduceSub, if_true, if_false, Bool.false_eq_true, Bool.not_true, Bool.not_false, true_and, and_true, reduceIte, startE, Option.some.injEq, Sl.sh.injEq, Sl.own.injEq, oey, oez, ofa, ofs, oft, ofu, pD, v_nonT, v_ixt0, v_ord]
      exact q

def wrK : Option (Option Nat) → D
  | none => .non
  | some none => .int (-1)
  | some (some i) => .int (i : Nat)
def sp_wrong_kind : Sps := fun ds Qd _ => ∃ d, ds = [d] ∧ plainD d = true ∧ Qd (wrK (wrongD d)) false
theorem numb_at {xs : List D} {i : Nat} {d : D} (h : (numbered xs)[i]? = some d) : ∃ z, xs[i]? = some z ∧ d = .tup [.int (i : Nat), z] := by
  unfold numbered at h
  rw [List.getElem?_map, List.getElem?_zipIdx] at h
  cases e : xs[i]? with
  | none => rw [e] at h; cases h
  | some z =>
    rw [e] at h
    simp only [Option.map_some, Option.some.injEq, Nat.zero_add] at h
    exact ⟨z, rfl, h.symm⟩
theorem numb_len (xs : List D) : (numbered xs).length = xs.length := by simp [numbered]
theorem drop_at {α : Type} {xs : List α} {i : Nat} {z : α} (h : xs[i]? = some z) : xs.drop i = z :: xs.drop (i + 1) := by
  obtain ⟨hi, e⟩ := List.getElem?_eq_some_iff.mp h
  rw [List.drop_eq_getElem_cons hi, e]
def r_wrong_kind (T : Tx) : RS :=
  (sSeq (sIf (dOr (dNot (dTruth (dIsi (kindD bTup obLow) (dVar 0)))) (dTest (dOp fEq (dCall fLen (dConsB (dVar 0) dNil)) (dC (.int 0))))) (sSeq (sRet (dUn fNeg (dC (.int 1)))) sNext) sNext) (sSeq (sFor (iEnumD (dVar 0)) (gT 2 (gsCons (gN 1) (gsCons (gN 2) gsNil))) (sSeq (sIf (dOr (dTest (dOp fEq (dVar 1) (dC (.int 10)))) (dNot (dTruth (dOwn 2 sp_is_kind (dPos 2 (dCons (dVar 2) (dCons (dIf (dTest (dOp fEq (dVar 1) (dC (.int 0)))) (dC .non) (dOp fIxA (dVar 0) (dOp fSub (dVar 1) (dC (.int 1))))) dNil))))))) (sSeq (sRet (dVar 1)) sNext) sNext) sNext)) (sSeq (sRet (dC .non)) sNext)))
theorem pure_wrong_kind (T : Tx) : ∀ ds Qd xd, ds.length = 1 → sp_wrong_kind ds Qd xd → r_wrong_kind T (kdOf Qd xd) (startE (["value", "at", "kind"] : List Str) ds) := by
  rintro _ Qd xd _ ⟨d, rfl, hd, q⟩
  by_cases ht : ∃ x xs, d = .tup (x :: xs)
  case neg =>
    have q : Qd (.int (-1)) false := by
      have : wrongD d = some none := by
        unfold wrongD
        split
        · exact (ht ⟨_, _, rfl⟩).elim
        · rfl
      rw [this] at q
      exact q
    by_cases he : d = .tup []
    · subst he
      have kt : kindD bTup obLow (.tup []) = some true := rfl
      have e1 : ((((0 : Nat)) : Int) == 0) = true := rfl
      simp only [r_wrong_kind, oaa, oab, oac, oad, oae, oaf, oag, oah, oai, oak, oam, oaq, oar, oas, oaw, oay, oaz, oba, obd, obe, obg, obn, obq, obr, obv, obw, occ, ocd, ocg, ocj, ocn, ocp, ocq, ocr, ocs, oct, ocu, ocv, ocw, ocx, ocz, oda, odc, odq, odr, ods, odt, odu, odv, List.getElem?_cons_zero, List.getElem?_cons_succ, List.map_cons, List.map_nil, List.cons_append, List.nil_append, List.append_nil, List.length_cons, List.length_nil, List.set_cons_zero, List.set_cons_succ, List.replicate, Nat.sub_self, Nat.zero_add, Nat.reduceAdd, Nat.reduceSub, if_true, if_false, Bool.false_eq_true, Bool.not_true, Bool.not_false, true_and, and_true, reduceIte, startE, Option.some.injEq, Sl.sh.injEq, Sl.own.injEq, unB, oey, oez, ofa, ofs, oft, ofu, kt, exists_eq_left', v_truth_b, v_lent, v_eqi, e1, v_negi]
      exact q
    · have kt : kindD bTup obLow d = some false := by
        cases d with
        | tup xs =>
          cases xs with
          | nil => exact (he rfl).elim
          | cons x xs => exact (ht ⟨_, _, rfl⟩).elim
        | _ => first | exact (Bool.noConfusion (show false = true from hd)) | rfl
      simp only [r_wrong_kind, oaa, oab, oac, oad, oae, oaf, oag, oah, oai, oak, oam, oaq, oar, oas, oaw, oay, oaz, oba, obd, obe, obg, obn, obq, obr, obv, obw, occ, ocd, ocg, ocj, ocn, ocp, ocq, ocr, ocs, oct, ocu, ocv, ocw, ocx, ocz, oda, odc, odq, odr, ods, odt, odu, odv, List.getElem?_cons_zero, List.getElem?_cons_succ, List.map_cons, List.map_nil, List.cons_append, List.nil_append, List.append_nil, List.length_cons, List.length_nil, List.set_cons_zero, List.set_cons_succ, List.replicate, Nat.sub_self, Nat.zero_add, Nat.reduceAdd, Nat.reduceSub, if_true, if_false, Bool.false_eq_true, Bool.not_true, Bool.not_false, true_and, and_true, reduceIte, startE, Option.some.injEq, Sl.sh.injEq, Sl.own.injEq, unB, oey, oez, ofa, ofs, oft, ofu, kt, exists_eq_left', v_truth_b, v_negi]
      exact q
  obtain ⟨x, xs, rfl⟩ := ht
  have q : Qd (wrK ((wrAt 0 none (x :: xs)).map some)) false := q
  have tm := plains_mem (show plains (x :: xs) = true from hd)
  have kt : kindD bTup obLow (.tup (x :: xs)) = some true := rfl
  have e1 : ((((x :: xs).length : Nat) : Int) == 0) = false := beq_eq_false_iff_ne.mpr (by simp only [List.length_cons]; omega)
  simp only [List.length_cons] at e1
  simp only [r_wrong_kind, oaa, oab, oac, oad, oae, oaf, oag, oah, oai, oak, oam, oaq, oar, oas, oaw, oay, oaz, oba, obd, obe, obg, obn, obq, obr, obv, obw, occ, ocd, ocg, ocj, ocn, ocp, ocq, ocr, ocs, oct, ocu, ocv, ocw, ocx, ocz, oda, odc, odq, odr, ods, odt, odu, odv, List.getElem?_cons_zero, List.getElem?_cons_succ, List.map_cons, List.map_nil, List.cons_append, List.nil_append, List.append_nil, List.length_cons, List.length_nil, List.set_cons_zero, List.set_cons_succ, List.replicate, Nat.sub_self, Nat.zero_add, Nat.reduceAdd, Nat.reduceSub, if_true, if_false, Bool.false_eq_true, Bool.not_true, Bool.not_false, true_and, and_true, reduceIte, startE, Option.some.injEq, Sl.sh.injEq, Sl.own.injEq, unB, oey, oez, ofa, ofs, oft, ofu, kt, exists_eq_left', v_truth_b, v_lent, v_eqi, e1]
  generalize hxs : x :: xs = ys at q tm
  refine loop_ix (fun i ρ => ∃ b s1 s2, ρ = [.sh (.tup ys), s1, s2] ∧ wrAt 0 none ys = wrAt i b (ys.drop i) ∧ (i = 0 ∧ b = none ∨ 0 < i ∧ ∃ z : Int × Int, ys[i - 1]? = some (pD z) ∧ b = some z.1)) ⟨none, _, _, rfl, rfl, .inl ⟨rfl, rfl⟩⟩ (fun i d hi ρ K h next => ?_) (fun ρ h => ?_)
  · obtain ⟨b, s1, s2, rfl, hw, hb⟩ := h
    obtain ⟨z, hz, rfl⟩ := numb_at hi
    have dr := drop_at hz
    have hw' : wrAt 0 none ys = (if i = 10 then some i else if kindB z b = true then wrAt (i + 1) ((kndP z).map (·.1)) (ys.drop (i + 1)) else some i) := by rw [hw, dr]; rfl
    have bad : wrAt 0 none ys = some i → Qd (.int (i : Nat)) false := fun e => by rw [e] at q; exact q
    simp only [oaa, oab, oac, oad, oae, oaf, oag, oah, oai, oak, oam, oaq, oar, oas, oaw, oay, oaz, oba, obd, obe, obg, obn, obq, obr, obv, obw, occ, ocd, ocg, ocj, ocn, ocp, ocq, ocr, ocs, oct, ocu, ocv, ocw, ocx, ocz, oda, odc, odq, odr, ods, odt, odu, odv, List.getElem?_cons_zero, List.getElem?_cons_succ, List.map_cons, List.map_nil, List.cons_append, List.nil_append, List.append_nil, List.length_cons, List.length_nil, List.set_cons_zero, List.set_cons_succ, List.replicate, Nat.sub_self, Nat.zero_add, Nat.reduceAdd, Nat.reduceSub, if_true, if_false, Bool.false_eq_true, Bool.not_true, Bool.not_false, true_and, and_true, reduceIte, startE, Option.some.injEq, Sl.sh.injEq, Sl.own.injEq, unB, oey, oez, ofa, ofs, oft, ofu, v_eqi, Nat.lt_add_one, Nat.reduceLT]
    by_cases c10 : i = 10
    · have e10 : (((i : Nat) : Int) == 10) = true := beq_iff_eq.mpr (by omega)
      simp only [oaa, oab, oac, oad, oae, oaf, oag, oah, oai, oak, oam, oaq, oar, oas, oaw, oay, oaz, oba, obd, obe, obg, obn, obq, obr, obv, obw, occ, ocd, ocg, ocj, ocn, ocp, ocq, ocr, ocs, oct, ocu, ocv, ocw, ocx, ocz, oda, odc, odq, odr, ods, odt, odu, odv, List.getElem?_cons_zero, List.getElem?_cons_succ, List.map_cons, List.map_nil, List.cons_append, List.nil_append, List.append_nil, List.length_cons, List.length_nil, List.set_cons_zero, List.set_cons_succ, List.replicate, Nat.sub_self, Nat.zero_add, Nat.reduceAdd, Nat.reduceSub, if_true, if_false, Bool.false_eq_true, Bool.not_true, Bool.not_false, true_and, and_true, reduceIte, startE, Option.some.injEq, Sl.sh.injEq, Sl.own.injEq, unB, oey, oez, ofa, ofs, oft, ofu, e10]
      rw [if_pos c10] at hw'
      exact bad hw'
    have e10 : (((i : Nat) : Int) == 10) = false := beq_eq_false_iff_ne.mpr (by omega)
    rw [if_neg c10] at hw'
    have zm : plainD z = true := tm z (List.mem_of_getElem? hz)
    have fin : ∀ e, (b = none ∧ e = D.non ∨ ∃ q : Int × Int, b = some q.1 ∧ e = pD q) → sp_is_kind [z, e] (fun d o => truth d fun c => if (!c) = true then Qd (.int (i : Nat)) false else K [.sh (.tup ys), .sh (.int (i : Nat)), .sh z]) (fun e => xd e) := fun e he => by
      refine ⟨z, b, e, rfl, zm, he, ?_⟩
      show (if (!kindB z b) = true then _ else _)
      by_cases c : kindB z b = true
      · rw [if_pos c] at hw'
        rw [c, if_neg (by decide)]
        refine next _ ⟨_, _, _, rfl, hw', .inr ⟨by omega, ?_⟩⟩
        unfold kindB at c
        cases ek : kndP z with
        | none => rw [ek] at c; cases c
        | some p =>
          obtain ⟨rfl, _⟩ := kndP_some ek
          exact ⟨p, by rw [Nat.add_sub_cancel]; exact hz, rfl⟩
      · rw [if_neg c] at hw'
        rw [Bool.eq_false_iff.mpr c, if_pos (by decide)]
        exact bad hw'
    rcases hb with ⟨rfl, rfl⟩ | ⟨h0, w, hw1, rfl⟩
    · have e0 : (((0 : Nat) : Int) == 0) = true := rfl
      have fin := fin .non (.inl ⟨rfl, rfl⟩)
      simp only [oaa, oab, oac, oad, oae, oaf, oag, oah, oai, oak, oam, oaq, oar, oas, oaw, oay, oaz, oba, obd, obe, obg, obn, obq, obr, obv, obw, occ, ocd, ocg, ocj, ocn, ocp, ocq, ocr, ocs, oct, ocu, ocv, ocw, ocx, ocz, oda, odc, odq, odr, ods, odt, odu, odv, List.getElem?_cons_zero, List.getElem?_cons_succ, List.map_cons, List.map_nil, List.cons_append, List.nil_append, List.append_nil, List.length_cons, List.length_nil, List.set_cons_zero, List.set_cons_succ, List.replicate, Nat.sub_self, Nat.zero_add, Nat.reduceAdd, Nat.reduceSub, if_true, if_false, Bool.false_eq_true, Bool.not_true, Bool.not_false, true_and, and_true, reduceIte, startE, Option.some.injEq, Sl.sh.injEq, Sl.own.injEq, unB, oey, oez, ofa, ofs, oft, ofu, e10, e0]
      exact fin
    · have e0 : (((i : Nat) : Int) == 0) = false := beq_eq_false_iff_ne.mpr (by omega)
      have hi2 : ((i : Nat) : Int) - 1 = ((i - 1 : Nat) : Int) := by omega
      have at_ : atI ys ((i - 1 : Nat) : Int) = some (pD w) := by rw [atI_get]; exact hw1
      have fin := fin (pD w) (.inr ⟨w, rfl, rfl⟩)
      simp only [oaa, oab, oac, oad, oae, oaf, oag, oah, oai, oak, oam, oaq, oar, oas, oaw, oay, oaz, oba, obd, obe, obg, obn, obq, obr, obv, obw, occ, ocd, ocg, ocj, ocn, ocp, ocq, ocr, ocs, oct, ocu, ocv, ocw, ocx, ocz, oda, odc, odq, odr, ods, odt, odu, odv, List.getElem?_cons_zero, List.getElem?_cons_succ, List.map_cons, List.map_nil, List.cons_append, List.nil_append, List.append_nil, List.length_cons, List.length_nil, List.set_cons_zero, List.set_cons_succ, List.replicate, Nat.sub_self, Nat.zero_add, Nat.reduceAdd, Nat.reduceSub, if_true, if_false, Bool.false_eq_true, Bool.not_true, Bool.not_false, true_and, and_true, reduceIte, startE, Option.some.injEq, Sl.sh.injEq, Sl.own.injEq, unB, oey, oez, ofa, ofs, oft, ofu, e10, e0, v_subi, hi2, v_ixt at_]
      exact fin
  · obtain ⟨b, s1, s2, rfl, hw, hb⟩ := h
    have : wrAt 0 none ys = none := by
      rw [hw, numb_len, List.drop_length]; rfl
    rw [this] at q
    simp only [oaa, oab, oac, oad, oae, oaf, oag, oah, oai, oak, oam, oaq, oar, oas, oaw, oay, oaz, oba, obd, obe, obg, obn, obq, obr, obv, obw, occ, ocd, ocg, ocj, ocn, ocp, ocq, ocr, ocs, oct, ocu, ocv, ocw, ocx, ocz, oda, odc, odq, odr, ods, odt, odu, odv, List.getElem?_cons_zero, List.getElem?_cons_succ, List.map_cons, List.map_nil, List.cons_append, List.nil_append, List.append_nil, List.length_cons, List.length_nil, List.set_cons_zero, List.set_cons_succ, List.replicate, Nat.sub_self, Nat.zero_add, Nat.reduceAdd, Nat.reduceSub, if_true, if_false, Bool.false_eq_true, Bool.not_true, Bool.not_false, true_and, and_true, reduceIte, startE, Option.some.injEq, Sl.sh.injEq, Sl.own.injEq, unB, oey, oez, ofa, ofs, oft, ofu]
    exact q

def wrE : Option Nat → D
  | none => .non
  | some i => .int (i : Nat)
def sp_Sides___init__ : SpsI := fun ds Qd xd => ∃ a c, ds = [a, c] ∧ plainD a = true ∧ plainD c = true ∧ (wrongD a = none → wrongD c = none → Qd [c, a]) ∧ (∀ o, wrongD a = some o → xd (.exc 32 [wrE o])) ∧ ∀ o, wrongD a = none → wrongD c = some o → xd (.exc 33 [wrE o])
def r_Sides___init__ (T : Tx) : RSI :=
  (iPre (sSet 3 (dOwn 1 sp_wrong_kind (dPos 1 (dCons (dVar 1) dNil)))) (iPre (sIf (dTest (dOp (fIsN not) (dVar 3) (dC .non))) (sSeq (sRaise 32 (dCons (dIf (dTest (dOp fLt (dVar 3) (dC (.int 0)))) (dC .non) (dVar 3)) dNil)) sNext) sNext) (iPre (sSet 3 (dOwn 1 sp_wrong_kind (dPos 1 (dCons (dVar 2) dNil)))) (iPre (sIf (dTest (dOp (fIsN not) (dVar 3) (dC .non))) (sSeq (sRaise 33 (dCons (dIf (dTest (dOp fLt (dVar 3) (dC (.int 0)))) (dC .non) (dVar 3)) dNil)) sNext) sNext) (iSt2 (dVar 1) (dVar 2))))))
theorem pure_Sides___init__ (T : Tx) : ∀ a ds Qd xd, ds.length + 1 = 3 → sp_Sides___init__ ds Qd xd → r_Sides___init__ T Qd [] (fun e _ => xd e) (startE (["self", "inner", "outer", "at"] : List Str) (.adr a :: ds)) := by
  rintro s _ Qd xd _ ⟨a, c, rfl, ha, hc, q, qa, qc⟩
  simp only [r_Sides___init__, oaa, oab, oac, oad, oae, oag, oah, oak, oam, oar, oas, oaw, obd, obe, obg, obn, obq, obr, obv, occ, ocd, ocj, ock, ocn, ocp, ocq, ocr, ocs, oct, odq, odr, ods, odt, odu, odv, List.getElem?_cons_zero, List.getElem?_cons_succ, List.map_cons, List.map_nil, List.cons_append, List.nil_append, List.append_nil, List.length_cons, List.length_nil, List.set_cons_zero, List.set_cons_succ, List.replicate, Nat.sub_self, Nat.zero_add, Nat.reduceAdd, Nat.reduceSub, if_true, if_false, Bool.false_eq_true, Bool.not_true, Bool.not_false, true_and, and_true, reduceIte, startE, frz, frz1, wipeE, Option.some.injEq, Sl.sh.injEq, Sl.own.injEq, oes, oey, oez, ofa, ofs, oft, ofu, iPre, sp_wrong_kind]
  refine ⟨a, rfl, ha, ?_⟩
  have neg1 : ((-1 : Int) < 0) := by decide
  cases e : wrongD a with
  | some o =>
    have qx := qa o e
    cases o with
    | none =>
      simp only [oaa, oab, oac, oad, oae, oag, oah, oak, oam, oar, oas, oaw, obd, obe, obg, obn, obq, obr, obv, occ, ocd, ocj, ock, ocn, ocp, ocq, ocr, ocs, oct, odq, odr, ods, odt, odu, odv, List.getElem?_cons_zero, List.getElem?_cons_succ, List.map_cons, List.map_nil, List.cons_append, List.nil_append, List.append_nil, List.length_cons, List.length_nil, List.set_cons_zero, List.set_cons_succ, List.replicate, Nat.sub_self, Nat.zero_add, Nat.reduceAdd, Nat.reduceSub, if_true, if_false, Bool.false_eq_true, Bool.not_true, Bool.not_false, true_and, and_true, reduceIte, startE, frz, frz1, wipeE, Option.some.injEq, Sl.sh.injEq, Sl.own.injEq, oes, oey, oez, ofa, ofs, oft, ofu, wrK, v_is, v_nonI, v_ord, neg1, decide_true]
      exact ⟨_, rfl, qx⟩
    | some i =>
      have c : ¬ (((i : Nat) : Int) < 0) := by omega
      simp only [oaa, oab, oac, oad, oae, oag, oah, oak, oam, oar, oas, oaw, obd, obe, obg, obn, obq, obr, obv, occ, ocd, ocj, ock, ocn, ocp, ocq, ocr, ocs, oct, odq, odr, ods, odt, odu, odv, List.getElem?_cons_zero, List.getElem?_cons_succ, List.map_cons, List.map_nil, List.cons_append, List.nil_append, List.append_nil, List.length_cons, List.length_nil, List.set_cons_zero, List.set_cons_succ, List.replicate, Nat.sub_self, Nat.zero_add, Nat.reduceAdd, Nat.reduceSub, if_true, if_false, Bool.false_eq_true, Bool.not_true, Bool.not_false, true_and, and_true, reduceIte, startE, frz, frz1, wipeE, Option.some.injEq, Sl.sh.injEq, Sl.own.injEq, oes, oey, oez, ofa, ofs, oft, ofu, wrK, v_is, v_nonI, v_ord, c, decide_false]
      exact ⟨_, rfl, qx⟩
  | none =>
    simp only [oaa, oab, oac, oad, oae, oag, oah, oak, oam, oar, oas, oaw, obd, obe, obg, obn, obq, obr, obv, occ, ocd, ocj, ock, ocn, ocp, ocq, ocr, ocs, oct, odq, odr, ods, odt, odu, odv, List.getElem?_cons_zero, List.getElem?_cons_succ, List.map_cons, List.map_nil, List.cons_append, List.nil_append, List.append_nil, List.length_cons, List.length_nil, List.set_cons_zero, List.set_cons_succ, List.replicate, Nat.sub_self, Nat.zero_add, Nat.reduceAdd, Nat.reduceSub, if_true, if_false, Bool.false_eq_true, Bool.not_true, Bool.not_false, true_and, and_true, reduceIte, startE, frz, frz1, wipeE, Option.some.injEq, Sl.sh.injEq, Sl.own.injEq, oes, oey, oez, ofa, ofs, oft, ofu, wrK, v_is, v_nonN]
    refine ⟨c, rfl, hc, ?_⟩
    cases e2 : wrongD c with
    | none =>
      simp only [oaa, oab, oac, oad, oae, oag, oah, oak, oam, oar, oas, oaw, obd, obe, obg, obn, obq, obr, obv, occ, ocd, ocj, ock, ocn, ocp, ocq, ocr, ocs, oct, odq, odr, ods, odt, odu, odv, List.getElem?_cons_zero, List.getElem?_cons_succ, List.map_cons, List.map_nil, List.cons_append, List.nil_append, List.append_nil, List.length_cons, List.length_nil, List.set_cons_zero, List.set_cons_succ, List.replicate, Nat.sub_self, Nat.zero_add, Nat.reduceAdd, Nat.reduceSub, if_true, if_false, Bool.false_eq_true, Bool.not_true, Bool.not_false, true_and, and_true, reduceIte, startE, frz, frz1, wipeE, Option.some.injEq, Sl.sh.injEq, Sl.own.injEq, oes, oey, oez, ofa, ofs, oft, ofu, wrK, v_is, v_nonN, iSt2, iStG, iEnd, List.range, List.range.loop]
      exact q e e2
    | some o =>
      have qx := qc o e e2
      cases o with
      | none =>
        simp only [oaa, oab, oac, oad, oae, oag, oah, oak, oam, oar, oas, oaw, obd, obe, obg, obn, obq, obr, obv, occ, ocd, ocj, ock, ocn, ocp, ocq, ocr, ocs, oct, odq, odr, ods, odt, odu, odv, List.getElem?_cons_zero, List.getElem?_cons_succ, List.map_cons, List.map_nil, List.cons_append, List.nil_append, List.append_nil, List.length_cons, List.length_nil, List.set_cons_zero, List.set_cons_succ, List.replicate, Nat.sub_self, Nat.zero_add, Nat.reduceAdd, Nat.reduceSub, if_true, if_false, Bool.false_eq_true, Bool.not_true, Bool.not_false, true_and, and_true, reduceIte, startE, frz, frz1, wipeE, Option.some.injEq, Sl.sh.injEq, Sl.own.injEq, oes, oey, oez, ofa, ofs, oft, ofu, wrK, v_is, v_nonI, v_ord, neg1, decide_true]
        exact ⟨_, rfl, qx⟩
      | some i =>
        have c : ¬ (((i : Nat) : Int) < 0) := by omega
        simp only [oaa, oab, oac, oad, oae, oag, oah, oak, oam, oar, oas, oaw, obd, obe, obg, obn, obq, obr, obv, occ, ocd, ocj, ock, ocn, ocp, ocq, ocr, ocs, oct, odq, odr, ods, odt, odu, odv, List.getElem?_cons_zero, List.getElem?_cons_succ, List.map_cons, List.map_nil, List.cons_append, List.nil_append, List.append_nil, List.length_cons, List.length_nil, List.set_cons_zero, List.set_cons_succ, List.replicate, Nat.sub_self, Nat.zero_add, Nat.reduceAdd, Nat.reduceSub, if_true, if_false, Bool.false_eq_true, Bool.not_true, Bool.not_false, true_and, and_true, reduceIte, startE, frz, frz1, wipeE, Option.some.injEq, Sl.sh.injEq, Sl.own.injEq, oes, oey, oez, ofa, ofs, oft, ofu, wrK, v_is, v_nonI, v_ord, c, decide_false]
        exact ⟨_, rfl, qx⟩

def sidQ : D → Option (List (Int × Int) × List (Int × Int)) → Prop
  | .obj 1 os, m => ∃ a c, m = some (a, c) ∧ os = [kD c, kD a] ∧ (∀ p ∈ a, KindOk p) ∧ ∀ p ∈ c, KindOk p
  | .obj 0 _, m => m = none
  | .obj _ _, _ => False
  | .non, m => m = none
  | .bl _, m => m = none
  | .int _, m => m = none
  | .str _, m => m = none
  | .tup _, m => m = none
  | .lst _, m => m = none
  | .dic _, m => m = none
  | _, _ => False
def sp_Sides___eq__ : Sps := fun ds Qd _ => ∃ a c d m, ds = [.obj 1 [kD c, kD a], d] ∧ (∀ p ∈ a, KindOk p) ∧ (∀ p ∈ c, KindOk p) ∧ sidQ d m ∧ Qd (.bl (decide (m = some (a, c)))) false
def r_Sides___eq__ (T : Tx) : RS :=
  (sSeq (sRet (dAndV (dIsi (kindD {} (T.ob 1)) (dVar 1)) (dAndV (dOp fEq (dSl 1 1 (dVar 0)) (dSl 1 1 (dVar 1))) (dOp fEq (dSl 1 0 (dVar 0)) (dSl 1 0 (dVar 1)))))) sNext)
theorem pure_Sides___eq__ (T : Tx) (ho : (T.ob 1 0, T.ob 1 1) = (some false, some true)) : ∀ ds Qd xd, ds.length = 2 → sp_Sides___eq__ ds Qd xd → r_Sides___eq__ T (kdOf Qd xd) (startE (["self", "other"] : List Str) ds) := by
  rintro _ Qd xd _ ⟨a, c, d, m, rfl, ha, hc, hd, q⟩
  have h0 : T.ob 1 0 = some false := congrArg Prod.fst ho
  have h1 : T.ob 1 1 = some true := congrArg Prod.snd ho
  simp only [r_Sides___eq__, oaa, oab, oac, oae, oak, oam, oas, oat, obg, obm, obn, obq, obr, obv, obw, occ, ocd, ocg, ocn, ocp, ocq, ocr, ocs, oct, odq, odr, ods, odt, odu, odv, List.getElem?_cons_zero, List.getElem?_cons_succ, List.map_cons, List.map_nil, List.cons_append, List.nil_append, List.append_nil, List.length_cons, List.length_nil, List.set_cons_zero, List.set_cons_succ, List.replicate, Nat.sub_self, Nat.zero_add, Nat.reduceAdd, Nat.reduceSub, if_true, if_false, Bool.false_eq_true, Bool.not_true, Bool.not_false, true_and, and_true, reduceIte, startE, Option.some.injEq, Sl.sh.injEq, Sl.own.injEq, oey, oez, ofa, ofs, oft, ofu]
  have no : m = none → Qd (.bl false) false := fun e => by subst e; exact q
  cases d
  case obj k os _ =>
    match k, hd with
    | 0, hd => exact ⟨false, h0, no hd⟩
    | 1, hd =>
      obtain ⟨a2, c2, rfl, rfl, ha2, hc2⟩ := hd
      refine ⟨true, h1, ?_⟩
      have e : decide (some (a2, c2) = some (a, c)) = (decide (a = a2) && decide (c = c2)) := by
        by_cases x : a = a2 <;> by_cases y : c = c2 <;> simp [x, y, eq_comm]
      rw [e] at q
      simp only [oaa, oab, oac, oae, oak, oam, oas, oat, obg, obm, obn, obq, obr, obv, obw, occ, ocd, ocg, ocn, ocp, ocq, ocr, ocs, oct, odq, odr, ods, odt, odu, odv, List.getElem?_cons_zero, List.getElem?_cons_succ, List.map_cons, List.map_nil, List.cons_append, List.nil_append, List.append_nil, List.length_cons, List.length_nil, List.set_cons_zero, List.set_cons_succ, List.replicate, Nat.sub_self, Nat.zero_add, Nat.reduceAdd, Nat.reduceSub, if_true, if_false, Bool.false_eq_true, Bool.not_true, Bool.not_false, true_and, and_true, reduceIte, startE, Option.some.injEq, Sl.sh.injEq, Sl.own.injEq, oey, oez, ofa, ofs, oft, ofu, fEq, okEq_kD ha, okEq_kD ha2, eqD_kD]
      by_cases x : a = a2
      · rw [decide_eq_true x, Bool.true_and] at q
        simp only [oaa, oab, oac, oae, oak, oam, oas, oat, obg, obm, obn, obq, obr, obv, obw, occ, ocd, ocg, ocn, ocp, ocq, ocr, ocs, oct, odq, odr, ods, odt, odu, odv, List.getElem?_cons_zero, List.getElem?_cons_succ, List.map_cons, List.map_nil, List.cons_append, List.nil_append, List.append_nil, List.length_cons, List.length_nil, List.set_cons_zero, List.set_cons_succ, List.replicate, Nat.sub_self, Nat.zero_add, Nat.reduceAdd, Nat.reduceSub, if_true, if_false, Bool.false_eq_true, Bool.not_true, Bool.not_false, true_and, and_true, reduceIte, startE, Option.some.injEq, Sl.sh.injEq, Sl.own.injEq, oey, oez, ofa, ofs, oft, ofu, x, decide_true, okEq_kD hc, okEq_kD hc2, eqD_kD]
        exact q
      · rw [decide_eq_false x, Bool.false_and] at q
        simp only [oaa, oab, oac, oae, oak, oam, oas, oat, obg, obm, obn, obq, obr, obv, obw, occ, ocd, ocg, ocn, ocp, ocq, ocr, ocs, oct, odq, odr, ods, odt, odu, odv, List.getElem?_cons_zero, List.getElem?_cons_succ, List.map_cons, List.map_nil, List.cons_append, List.nil_append, List.append_nil, List.length_cons, List.length_nil, List.set_cons_zero, List.set_cons_succ, List.replicate, Nat.sub_self, Nat.zero_add, Nat.reduceAdd, Nat.reduceSub, if_true, if_false, Bool.false_eq_true, Bool.not_true, Bool.not_false, true_and, and_true, reduceIte, startE, Option.some.injEq, Sl.sh.injEq, Sl.own.injEq, oey, oez, ofa, ofs, oft, ofu, x, decide_false]
        exact q
  all_goals first
    | exact hd.elim
    | exact ⟨false, rfl, no hd⟩

def rowQ : D → Option (List (Int × Int)) → Prop
  | .obj 0 os, m => ∃ l, m = some l ∧ os = [kD l] ∧ ∀ p ∈ l, KindOk p
  | .obj _ _, _ => False
  | .non, m => m = none
  | .bl _, m => m = none
  | .int _, m => m = none
  | .str _, m => m = none
  | .tup _, m => m = none
  | .lst _, m => m = none
  | .dic _, m => m = none
  | _, _ => False
def sp_Row___eq__ : Sps := fun ds Qd _ => ∃ l d m, ds = [.obj 0 [kD l], d] ∧ (∀ p ∈ l, KindOk p) ∧ rowQ d m ∧ Qd (.bl (decide (m = some l))) false
def r_Row___eq__ (T : Tx) : RS :=
  (sSeq (sRet (dAndV (dIsi (kindD {} (T.ob 0)) (dVar 1)) (dOp fEq (dSl 0 0 (dVar 0)) (dSl 0 0 (dVar 1))))) sNext)
theorem pure_Row___eq__ (T : Tx) (ho : T.ob 0 0 = some true) : ∀ ds Qd xd, ds.length = 2 → sp_Row___eq__ ds Qd xd → r_Row___eq__ T (kdOf Qd xd) (startE (["self", "other"] : List Str) ds) := by
  rintro _ Qd xd _ ⟨l, d, m, rfl, hl, hd, q⟩
  simp only [r_Row___eq__, oaa, oab, oac, oae, oak, oam, oas, oat, obg, obm, obn, obq, obr, obv, obw, occ, ocd, ocg, ocn, ocp, ocq, ocr, ocs, oct, odq, odr, ods, odt, odu, odv, List.getElem?_cons_zero, List.getElem?_cons_succ, List.map_cons, List.map_nil, List.cons_append, List.nil_append, List.append_nil, List.length_cons, List.length_nil, List.set_cons_zero, List.set_cons_succ, List.replicate, Nat.sub_self, Nat.zero_add, Nat.reduceAdd, Nat.reduceSub, if_true, if_false, Bool.false_eq_true, Bool.not_true, Bool.not_false, true_and, and_true, reduceIte, startE, Option.some.injEq, Sl.sh.injEq, Sl.own.injEq, oey, oez, ofa, ofs, oft, ofu]
  cases d
  case obj k os _ =>
    cases k with
    | zero =>
      obtain ⟨l2, rfl, rfl, h2⟩ := hd
      refine ⟨true, ho, ?_⟩
      have e : decide (some l2 = some l) = decide (l = l2) := decide_eq_decide.mpr ⟨fun e => (Option.some.inj e).symm, fun e => by rw [e]⟩
      rw [e] at q
      simp only [oaa, oab, oac, oae, oak, oam, oas, oat, obg, obm, obn, obq, obr, obv, obw, occ, ocd, ocg, ocn, ocp, ocq, ocr, ocs, oct, odq, odr, ods, odt, odu, odv, List.getElem?_cons_zero, List.getElem?_cons_succ, List.map_cons, List.map_nil, List.cons_append, List.nil_append, List.append_nil, List.length_cons, List.length_nil, List.set_cons_zero, List.set_cons_succ, List.replicate, Nat.sub_self, Nat.zero_add, Nat.reduceAdd, Nat.reduceSub, if_true, if_false, Bool.false_eq_true, Bool.not_true, Bool.not_false, true_and, and_true, reduceIte, startE, Option.some.injEq, Sl.sh.injEq, Sl.own.injEq, oey, oez, ofa, ofs, oft, ofu, fEq, okEq_kD hl, okEq_kD h2, eqD_kD]
      exact q
    | succ k => exact hd.elim
  all_goals first
    | exact hd.elim
    | (have e : m = none := hd; subst e; exact ⟨false, rfl, q⟩)

def sp_Sides_outer : Sps := fun ds Qd _ => ∃ a c, ds = [.obj 1 [c, a]] ∧ Qd c false
def r_Sides_outer (T : Tx) : RS :=
  (sSeq (sRet (dSl 1 0 (dVar 0))) sNext)
theorem pure_Sides_outer (T : Tx) : ∀ ds Qd xd, ds.length = 1 → sp_Sides_outer ds Qd xd → r_Sides_outer T (kdOf Qd xd) (startE (["self"] : List Str) ds) := by
  rintro _ Qd xd _ ⟨a, c, rfl, q⟩
  simp only [r_Sides_outer, oaa, oab, oac, oak, oam, oas, obg, obm, obn, obq, obr, obv, occ, ocd, ocg, ocn, ocp, ocq, ocr, ocs, oct, odq, odr, ods, odt, odu, odv, List.getElem?_cons_zero, List.getElem?_cons_succ, List.map_cons, List.map_nil, List.cons_append, List.nil_append, List.append_nil, List.length_cons, List.length_nil, List.set_cons_zero, List.set_cons_succ, List.replicate, Nat.sub_self, Nat.zero_add, Nat.reduceAdd, Nat.reduceSub, if_true, if_false, Bool.false_eq_true, Bool.not_true, Bool.not_false, true_and, and_true, reduceIte, startE, Option.some.injEq, Sl.sh.injEq, Sl.own.injEq, oey, oez, ofa, ofs, oft, ofu]
  exact q

def sp_Sides_inner : Sps := fun ds Qd _ => ∃ a c, ds = [.obj 1 [c, a]] ∧ Qd a false
def r_Sides_inner (T : Tx) : RS :=
  (sSeq (sRet (dSl 1 1 (dVar 0))) sNext)
theorem pure_Sides_inner (T : Tx) : ∀ ds Qd xd, ds.length = 1 → sp_Sides_inner ds Qd xd → r_Sides_inner T (kdOf Qd xd) (startE (["self"] : List Str) ds) := by
  rintro _ Qd xd _ ⟨a, c, rfl, q⟩
  simp only [r_Sides_inner, oaa, oab, oac, oak, oam, oas, obg, obm, obn, obq, obr, obv, occ, ocd, ocg, ocn, ocp, ocq, ocr, ocs, oct, odq, odr, ods, odt, odu, odv, List.getElem?_cons_zero, List.getElem?_cons_succ, List.map_cons, List.map_nil, List.cons_append, List.nil_append, List.append_nil, List.length_cons, List.length_nil, List.set_cons_zero, List.set_cons_succ, List.replicate, Nat.sub_self, Nat.zero_add, Nat.reduceAdd, Nat.reduceSub, if_true, if_false, Bool.false_eq_true, Bool.not_true, Bool.not_false, true_and, and_true, reduceIte, startE, Option.some.injEq, Sl.sh.injEq, Sl.own.injEq, oey, oez, ofa, ofs, oft, ofu]
  exact q

def sp_Row___init__ : SpsI := fun ds Qd xd => ∃ d, ds = [d] ∧ plainD d = true ∧ (wrongD d = none → Qd [d]) ∧ ∀ o, wrongD d = some o → xd (.exc 30 [wrE o])
def r_Row___init__ (T : Tx) : RSI :=
  (iPre (sSet 2 (dOwn 1 sp_wrong_kind (dPos 1 (dCons (dVar 1) dNil)))) (iPre (sIf (dTest (dOp (fIsN not) (dVar 2) (dC .non))) (sSeq (sRaise 30 (dCons (dIf (dTest (dOp fLt (dVar 2) (dC (.int 0)))) (dC .non) (dVar 2)) dNil)) sNext) sNext) (fun st acc x ρ => acc.length = 0 ∧ iSt (dVar 1) iEnd st acc x ρ)))
theorem pure_Row___init__ (T : Tx) : ∀ a ds Qd xd, ds.length + 1 = 2 → sp_Row___init__ ds Qd xd → r_Row___init__ T Qd [] (fun e _ => xd e) (startE (["self", "kinds", "at"] : List Str) (.adr a :: ds)) := by
  rintro a _ Qd xd _ ⟨d, rfl, hd, q, qx⟩
  simp only [r_Row___init__, oaa, oab, oac, oad, oae, oag, oah, oak, oam, oar, oas, oaw, obd, obe, obg, obn, obq, obr, obv, occ, ocd, ocj, ock, ocn, ocp, ocq, ocr, ocs, oct, odq, odr, ods, odt, odu, odv, List.getElem?_cons_zero, List.getElem?_cons_succ, List.map_cons, List.map_nil, List.cons_append, List.nil_append, List.append_nil, List.length_cons, List.length_nil, List.set_cons_zero, List.set_cons_succ, List.replicate, Nat.sub_self, Nat.zero_add, Nat.reduceAdd, Nat.reduceSub, if_true, if_false, Bool.false_eq_true, Bool.not_true, Bool.not_false, true_and, and_true, reduceIte, startE, frz, frz1, wipeE, Option.some.injEq, Sl.sh.injEq, Sl.own.injEq, oes, oey, oez, ofa, ofs, oft, ofu, iPre, sp_wrong_kind]
  refine ⟨d, rfl, hd, ?_⟩
  cases e : wrongD d with
  | none =>
    simp only [oaa, oab, oac, oad, oae, oag, oah, oak, oam, oar, oas, oaw, obd, obe, obg, obn, obq, obr, obv, occ, ocd, ocj, ock, ocn, ocp, ocq, ocr, ocs, oct, odq, odr, ods, odt, odu, odv, List.getElem?_cons_zero, List.getElem?_cons_succ, List.map_cons, List.map_nil, List.cons_append, List.nil_append, List.append_nil, List.length_cons, List.length_nil, List.set_cons_zero, List.set_cons_succ, List.replicate, Nat.sub_self, Nat.zero_add, Nat.reduceAdd, Nat.reduceSub, if_true, if_false, Bool.false_eq_true, Bool.not_true, Bool.not_false, true_and, and_true, reduceIte, startE, frz, frz1, wipeE, Option.some.injEq, Sl.sh.injEq, Sl.own.injEq, oes, oey, oez, ofa, ofs, oft, ofu, wrK, v_is, v_nonN, iSt, iEnd, List.range, List.range.loop]
    exact q e
  | some o =>
    have qx := qx o e
    cases o with
    | none =>
      have c : ((-1 : Int) < 0) := by decide
      simp only [oaa, oab, oac, oad, oae, oag, oah, oak, oam, oar, oas, oaw, obd, obe, obg, obn, obq, obr, obv, occ, ocd, ocj, ock, ocn, ocp, ocq, ocr, ocs, oct, odq, odr, ods, odt, odu, odv, List.getElem?_cons_zero, List.getElem?_cons_succ, List.map_cons, List.map_nil, List.cons_append, List.nil_append, List.append_nil, List.length_cons, List.length_nil, List.set_cons_zero, List.set_cons_succ, List.replicate, Nat.sub_self, Nat.zero_add, Nat.reduceAdd, Nat.reduceSub, if_true, if_false, Bool.false_eq_true, Bool.not_true, Bool.not_false, true_and, and_true, reduceIte, startE, frz, frz1, wipeE, Option.some.injEq, Sl.sh.injEq, Sl.own.injEq, oes, oey, oez, ofa, ofs, oft, ofu, wrK, v_is, v_nonI, v_ord, c, decide_true]
      exact ⟨_, rfl, qx⟩
    | some i =>
      have c : ¬ (((i : Nat) : Int) < 0) := by omega
      simp only [oaa, oab, oac, oad, oae, oag, oah, oak, oam, oar, oas, oaw, obd, obe, obg, obn, obq, obr, obv, occ, ocd, ocj, ock, ocn, ocp, ocq, ocr, ocs, oct, odq, odr, ods, odt, odu, odv, List.getElem?_cons_zero, List.getElem?_cons_succ, List.map_cons, List.map_nil, List.cons_append, List.nil_append, List.append_nil, List.length_cons, List.length_nil, List.set_cons_zero, List.set_cons_succ, List.replicate, Nat.sub_self, Nat.zero_add, Nat.reduceAdd, Nat.reduceSub, if_true, if_false, Bool.false_eq_true, Bool.not_true, Bool.not_false, true_and, and_true, reduceIte, startE, frz, frz1, wipeE, Option.some.injEq, Sl.sh.injEq, Sl.own.injEq, oes, oey, oez, ofa, ofs, oft, ofu, wrK, v_is, v_nonI, v_ord, c, decide_false]
      exact ⟨_, rfl, qx⟩

def noSd : D → Bool
  | .obj 0 _ => true
  | .non | .bl _ | .int _ | .str _ | .tup _ | .lst _ | .dic _ => true
  | _ => false
def sp_check_sides : Sps := fun ds Qd xd => ∃ d, ds = [d] ∧ ((∃ os, d = .obj 1 os ∧ Qd .non false) ∨ (noSd d = true ∧ xd (.exc 29 [d])))
def r_check_sides (T : Tx) : RS :=
  (sSeq (sIf (dNot (dTruth (dIsi (kindD {} (T.ob 1)) (dVar 0)))) (sSeq (sRaise 29 (dCons (dVar 0) dNil)) sNext) sNext) sNext)
theorem pure_check_sides (T : Tx) (ho : (T.ob 1 0, T.ob 1 1) = (some false, some true)) : ∀ ds Qd xd, ds.length = 1 → sp_check_sides ds Qd xd → r_check_sides T (kdOf Qd xd) (startE (["value"] : List Str) ds) := by
  rintro _ Qd xd _ ⟨d, rfl, h⟩
  have h0 : T.ob 1 0 = some false := congrArg Prod.fst ho
  have h1 : T.ob 1 1 = some true := congrArg Prod.snd ho
  rcases h with ⟨os, rfl, q⟩ | ⟨hn, q⟩
  · have k1 : kindD {} (T.ob 1) (.obj 1 os) = some true := h1
    simp only [r_check_sides, oaa, oab, oac, oag, oah, oak, oam, oas, oaz, oba, obg, obn, obq, obr, obv, obw, occ, ocd, ocj, ocn, ocp, ocq, ocr, ocs, oct, odq, odr, ods, odt, odu, odv, List.getElem?_cons_zero, List.getElem?_cons_succ, List.map_cons, List.map_nil, List.cons_append, List.nil_append, List.append_nil, List.length_cons, List.length_nil, List.set_cons_zero, List.set_cons_succ, List.replicate, Nat.sub_self, Nat.zero_add, Nat.reduceAdd, Nat.reduceSub, if_true, if_false, Bool.false_eq_true, Bool.not_true, Bool.not_false, true_and, and_true, reduceIte, startE, Option.some.injEq, Sl.sh.injEq, Sl.own.injEq, oes, oey, oez, ofa, ofs, oft, ofu, k1, exists_eq_left', v_truth_b]
    exact q
  · have k1 : kindD {} (T.ob 1) d = some false := by
      cases d <;> first | rfl | (cases hn; done) | skip
      case obj k os _ => cases k with
        | zero => exact h0
        | succ k => cases hn
    simp only [r_check_sides, oaa, oab, oac, oag, oah, oak, oam, oas, oaz, oba, obg, obn, obq, obr, obv, obw, occ, ocd, ocj, ocn, ocp, ocq, ocr, ocs, oct, odq, odr, ods, odt, odu, odv, List.getElem?_cons_zero, List.getElem?_cons_succ, List.map_cons, List.map_nil, List.cons_append, List.nil_append, List.append_nil, List.length_cons, List.length_nil, List.set_cons_zero, List.set_cons_succ, List.replicate, Nat.sub_self, Nat.zero_add, Nat.reduceAdd, Nat.reduceSub, if_true, if_false, Bool.false_eq_true, Bool.not_true, Bool.not_false, true_and, and_true, reduceIte, startE, Option.some.injEq, Sl.sh.injEq, Sl.own.injEq, oes, oey, oez, ofa, ofs, oft, ofu, k1, exists_eq_left', v_truth_b]
    exact ⟨_, rfl, q⟩

abbrev sp_can_face : Sps := spNone
def sp_sides_can_be : Sps := fun ds _ xd => ∃ d, ds = [d] ∧ noSd d = true ∧ xd (.exc 29 [d])
def r_sides_can_be (T : Tx) : RS :=
  (sSeq (sDrop (dOwn 1 sp_check_sides (dPos 1 (dCons (dVar 0) dNil)))) (sSeq (sRet (dOwn 2 sp_can_face (dPos 2 (dCons (dSl 1 1 (dVar 0)) (dCons (dSl 1 0 (dVar 0)) dNil))))) sNext))
theorem pure_sides_can_be (T : Tx) : ∀ ds Qd xd, ds.length = 1 → sp_sides_can_be ds Qd xd → r_sides_can_be T (kdOf Qd xd) (startE (["sides"] : List Str) ds) := by
  rintro _ Qd xd _ ⟨d, rfl, hn, q⟩
  unfold r_sides_can_be
  refine seq_bar fun K1 hK1 => ?_
  simp only [oaa, oab, oac, oag, oah, oak, oam, oas, obd, obe, obg, obm, obn, obq, obr, obv, occ, ocd, ocg, oci, ocn, ocp, ocq, ocr, ocs, oct, odq, odr, ods, odt, odu, odv, List.getElem?_cons_zero, List.getElem?_cons_succ, List.map_cons, List.map_nil, List.cons_append, List.nil_append, List.append_nil, List.length_cons, List.length_nil, List.set_cons_zero, List.set_cons_succ, List.replicate, Nat.sub_self, Nat.zero_add, Nat.reduceAdd, Nat.reduceSub, if_true, if_false, Bool.false_eq_true, Bool.not_true, Bool.not_false, true_and, and_true, reduceIte, startE, Option.some.injEq, Sl.sh.injEq, Sl.own.injEq, oey, oez, ofa, ofs, oft, ofu, sp_check_sides]
  exact ⟨d, rfl, .inr ⟨hn, q⟩⟩

abbrev sp_is_single : Sps := spNone
abbrev sp_set_around : Sps := spNone
def sp_sides_one : Sps := fun ds _ xd => ∃ d, ds = [d] ∧ noSd d = true ∧ xd (.exc 29 [d])
def r_sides_one (T : Tx) : RS :=
  (sSeq (sDrop (dOwn 1 sp_check_sides (dPos 1 (dCons (dVar 0) dNil)))) (sSeq (sRet (dAndV (dOwn 2 sp_can_face (dPos 2 (dCons (dSl 1 1 (dVar 0)) (dCons (dSl 1 0 (dVar 0)) dNil)))) (dOwn 1 sp_is_single (dPos 1 (dCons (dOwn 3 sp_set_around (dPos 3 (dCons (dSl 1 1 (dVar 0)) (dCons (dSl 1 0 (dVar 0)) (dCons (dLst dNil) dNil))))) dNil))))) sNext))
theorem pure_sides_one (T : Tx) : ∀ ds Qd xd, ds.length = 1 → sp_sides_one ds Qd xd → r_sides_one T (kdOf Qd xd) (startE (["sides"] : List Str) ds) := by
  rintro _ Qd xd _ ⟨d, rfl, hn, q⟩
  unfold r_sides_one
  refine seq_bar fun K1 hK1 => ?_
  simp only [oaa, oab, oac, oag, oah, oak, oam, oap, oas, oat, obd, obe, obg, obm, obn, obq, obr, obv, occ, ocd, ocg, oci, ocn, ocp, ocq, ocr, ocs, oct, odq, odr, ods, odt, odu, odv, List.getElem?_cons_zero, List.getElem?_cons_succ, List.map_cons, List.map_nil, List.cons_append, List.nil_append, List.append_nil, List.length_cons, List.length_nil, List.set_cons_zero, List.set_cons_succ, List.replicate, Nat.sub_self, Nat.zero_add, Nat.reduceAdd, Nat.reduceSub, if_true, if_false, Bool.false_eq_true, Bool.not_true, Bool.not_false, true_and, and_true, reduceIte, startE, Option.some.injEq, Sl.sh.injEq, Sl.own.injEq, oey, oez, ofa, ofs, oft, ofu, sp_check_sides]
  exact ⟨d, rfl, .inr ⟨hn, q⟩⟩

abbrev sp_check_facing : Sps := spNone
abbrev sp_fitting_row : Sps := spNone
def sp_alone_row : Sps := fun ds _ xd => ∃ d, ds = [d] ∧ noSd d = true ∧ xd (.exc 29 [d])
def r_alone_row (T : Tx) : RS :=
  (sSeq (sDrop (dOwn 1 sp_check_sides (dPos 1 (dCons (dVar 0) dNil)))) (sSeq (sDrop (dOwn 1 sp_check_facing (dPos 1 (dCons (dVar 0) dNil)))) (sSeq (sRet (dOwn 1 sp_fitting_row (dPos 1 (dCons (dOwn 3 sp_set_around (dPos 3 (dCons (dSl 1 1 (dVar 0)) (dCons (dSl 1 0 (dVar 0)) (dCons (dLst dNil) dNil))))) dNil)))) sNext)))
theorem pure_alone_row (T : Tx) : ∀ ds Qd xd, ds.length = 1 → sp_alone_row ds Qd xd → r_alone_row T (kdOf Qd xd) (startE (["sides"] : List Str) ds) := by
  rintro _ Qd xd _ ⟨d, rfl, hn, q⟩
  unfold r_alone_row
  refine seq_bar fun K1 hK1 => ?_
  simp only [oaa, oab, oac, oag, oah, oak, oam, oap, oas, obd, obe, obg, obm, obn, obq, obr, obv, occ, ocd, ocg, oci, ocn, ocp, ocq, ocr, ocs, oct, odq, odr, ods, odt, odu, odv, List.getElem?_cons_zero, List.getElem?_cons_succ, List.map_cons, List.map_nil, List.cons_append, List.nil_append, List.append_nil, List.length_cons, List.length_nil, List.set_cons_zero, List.set_cons_succ, List.replicate, Nat.sub_self, Nat.zero_add, Nat.reduceAdd, Nat.reduceSub, if_true, if_false, Bool.false_eq_true, Bool.not_true, Bool.not_false, true_and, and_true, reduceIte, startE, Option.some.injEq, Sl.sh.injEq, Sl.own.injEq, oey, oez, ofa, ofs, oft, ofu, sp_check_sides]
  exact ⟨d, rfl, .inr ⟨hn, q⟩⟩

abbrev sp_check_row : Sps := spNone
abbrev sp_check_can : Sps := spNone
abbrev sp_Row_kinds : Sps := spNone
def sp_around : Sps := fun ds _ xd => ∃ d e, ds = [d, e] ∧ noSd d = true ∧ xd (.exc 29 [d])
def r_around (T : Tx) : RS :=
  (sSeq (sDrop (dOwn 1 sp_check_sides (dPos 1 (dCons (dVar 0) dNil)))) (sSeq (sDrop (dOwn 1 sp_check_row (dPos 1 (dCons (dVar 1) dNil)))) (sSeq (sDrop (dOwn 1 sp_check_facing (dPos 1 (dCons (dVar 0) dNil)))) (sSeq (sDrop (dOwn 1 sp_check_can (dPos 1 (dCons (dVar 1) dNil)))) (sSeq (sRet (dOwn 1 sp_fitting_row (dPos 1 (dCons (dOwn 3 sp_set_around (dPos 3 (dCons (dSl 1 1 (dVar 0)) (dCons (dSl 1 0 (dVar 0)) (dCons (dProp 0 sp_Row_kinds (dVar 1)) dNil))))) dNil)))) sNext)))))
theorem pure_around (T : Tx) : ∀ ds Qd xd, ds.length = 2 → sp_around ds Qd xd → r_around T (kdOf Qd xd) (startE (["sides", "row"] : List Str) ds) := by
  rintro _ Qd xd _ ⟨d, e, rfl, hn, q⟩
  unfold r_around
  refine seq_bar fun K1 hK1 => ?_
  simp only [oaa, oab, oac, oag, oah, oak, oam, oas, obd, obe, obg, obk, obm, obn, obq, obr, obv, occ, ocd, ocg, oci, ocn, ocp, ocq, ocr, ocs, oct, odq, odr, ods, odt, odu, odv, List.getElem?_cons_zero, List.getElem?_cons_succ, List.map_cons, List.map_nil, List.cons_append, List.nil_append, List.append_nil, List.length_cons, List.length_nil, List.set_cons_zero, List.set_cons_succ, List.replicate, Nat.sub_self, Nat.zero_add, Nat.reduceAdd, Nat.reduceSub, if_true, if_false, Bool.false_eq_true, Bool.not_true, Bool.not_false, true_and, and_true, reduceIte, startE, Option.some.injEq, Sl.sh.injEq, Sl.own.injEq, oey, oez, ofa, ofs, oft, ofu, sp_check_sides]
  exact ⟨d, rfl, .inr ⟨hn, q⟩⟩

abbrev sp__law_right : Sps := rightS
theorem gs_num (i : Nat) : GS (numS (i : Nat)) := by
  rw [← numS_eq (by omega)]; exact gs_str _
theorem wrS_ok (o : Option (Option Nat)) : PyData.strOk (wrS o) = true := by
  match o with
  | none => decide +kernel
  | some none => decide +kernel
  | some (some i) => exact gs_ok (gs_num _)
def Lo (o : Option (Option Nat)) : Prop := ∀ i, o = some (some i) → i ≤ 10
theorem wrong_lo (d : D) : Lo (wrongD d) := fun i e => by
  unfold wrongD at e
  split at e
  · next x xs =>
    cases h : wrAt 0 none (x :: xs) with
    | none => rw [h] at e; cases e
    | some j =>
      rw [h] at e
      cases e
      exact wrAt_le h (by omega)
  · cases e
theorem wrS_ne {o : Option Nat} (h : Lo (some o)) : (wrS (some o) == ("" : Str)) = false := by
  cases o with
  | none => decide +kernel
  | some i =>
    have hi := h i rfl
    have key : ∀ i : Fin 11, (numS (i.val : Nat) == ("" : Str)) = false := by decide +kernel
    exact key ⟨i, by omega⟩
theorem wrE_repr {o : Option Nat} (h : Lo (some o)) : ReprX (wrE o) (wrS (some o)) := by
  cases o with
  | none => exact .inl ⟨.inl ⟨rfl, by decide, by decide⟩, rfl⟩
  | some i =>
    have := h i rfl
    refine .inl ⟨reprok_i (log_ok (by omega) (by omega)), ?_⟩
    show numS (i : Nat) = Str.ofString (toString ((i : Nat) : Int))
    rw [numS_eq (by omega)]
def nmS : Option (Option Nat) → Str
  | some _ => "InvalidInner"
  | none => "InvalidOuter"
def duS : Option (Option Nat) → Option (Option Nat) → Option (Option Nat)
  | some o, _ => some o
  | none, o => o
def outS (a c : D) : D := match duS (wrongD a) (wrongD c) with
  | some o => .lst [.str (nmS (wrongD a)), .str (wrS (some o))]
  | none => .lst [.str "told", .obj 1 [c, a]]
theorem ask_sides {a c : D} (ha : plainD a = true) (hc : plainD c = true) {Qd : D → Bool → Prop} (h : Qd (outS a c) true) : ∃ xq q : D → Prop, sp_Sides___init__ [a, c] (fun os => q (.obj 1 os)) xq ∧ sp__law_caught xq q Qd := by
  unfold outS at h
  cases ea : wrongD a with
  | some o =>
    rw [ea] at h
    have lo : Lo (some o) := ea ▸ wrong_lo a
    refine ⟨fun e => e = .exc 32 [wrE o], fun _ => False, ⟨a, c, rfl, ha, hc, fun h => ?_, fun o' e => ?_, fun o' h => ?_⟩, fun e he => ⟨32, _, _, _, he, rfl, wrE_repr lo, h⟩, fun _ z => z.elim⟩
    · rw [ea] at h; cases h
    · rw [ea] at e; cases e; rfl
    · rw [ea] at h; cases h
  | none =>
    rw [ea] at h
    cases ec : wrongD c with
    | some o =>
      rw [ec] at h
      have lo : Lo (some o) := ec ▸ wrong_lo c
      refine ⟨fun e => e = .exc 33 [wrE o], fun _ => False, ⟨a, c, rfl, ha, hc, fun _ h => ?_, fun o' e => ?_, fun o' _ e => ?_⟩, fun e he => ⟨33, _, _, _, he, rfl, wrE_repr lo, h⟩, fun _ z => z.elim⟩
      · rw [ec] at h; cases h
      · rw [ea] at e; cases e
      · rw [ec] at e; cases e; rfl
    | none =>
      rw [ec] at h
      refine ⟨fun _ => False, fun d => d = .obj 1 [c, a], ⟨a, c, rfl, ha, hc, fun _ _ => rfl, fun o' e => ?_, fun o' _ e => ?_⟩, fun e he => he.elim, fun d hd => by rw [hd]; exact h⟩
      · rw [ea] at e; cases e
      · rw [ec] at e; cases e
theorem nmS_ok (o : Option (Option Nat)) : PyData.strOk (nmS o) = true := by
  cases o with
  | none => decide +kernel
  | some o => exact (by decide +kernel : PyData.strOk ("InvalidInner" : Str) = true)
theorem four_tame {x y u v : Str} (h : PyData.strOk x = true) (g : PyData.strOk y = true) (h2 : PyData.strOk u = true) (g2 : PyData.strOk v = true) : tame (.lst [.lst [.str x, .str y], .lst [.str u, .str v]]) = true := by
  simp [h, g, h2, g2]
theorem spo_sides {s1 s2 s3 : Sps} {os : List D} {d : D} {Qd : D → Bool → Prop} {xd : D → Prop} (h : okO 1 d) (g : s2 [.obj 1 os, d] Qd xd) : spOq 0 s1 (spOq 1 s2 s3) [.obj 1 os, d] Qd xd := ⟨h, g⟩
theorem ne_sides {l m l2 m2 : List (Int × Int)} (hl : GoodK l) (hm : GoodK m) (hl2 : GoodK l2) (hm2 : GoodK m2) {P : D → Prop} (h : P (.bl (!decide ((l2, m2) = (l, m))))) : neS sp_Sides___eq__ [.obj 1 [kD m, kD l], .obj 1 [kD m2, kD l2]] (fun d _ => P d) (fun _ => False) := by
  refine ⟨l, m, _, some (l2, m2), rfl, hl.ok, hm.ok, ⟨l2, m2, rfl, rfl, hl2.ok, hm2.ok⟩, ?_⟩
  rw [show decide (some (l2, m2) = some (l, m)) = decide ((l2, m2) = (l, m)) from by simp]
  exact h
theorem eq_sides {l m l2 m2 : List (Int × Int)} (hl : GoodK l) (hm : GoodK m) (hl2 : GoodK l2) (hm2 : GoodK m2) {P : D → Prop} (h : P (.bl (decide ((l2, m2) = (l, m))))) : eqS sp_Sides___eq__ [.obj 1 [kD m, kD l], .obj 1 [kD m2, kD l2]] (fun d _ => P d) (fun _ => False) := by
  refine ⟨l, m, _, some (l2, m2), rfl, hl.ok, hm.ok, ⟨l2, m2, rfl, rfl, hl2.ok, hm2.ok⟩, ?_⟩
  rw [show decide (some (l2, m2) = some (l, m)) = decide ((l2, m2) = (l, m)) from by simp]
  exact h
theorem eq_sidesT {l m n : List (Int × Int)} (hl : GoodK l) (hm : GoodK m) {P : D → Prop} (h : P (.bl false)) : eqS sp_Sides___eq__ [.obj 1 [kD m, kD l], kD n] (fun d _ => P d) (fun _ => False) :=
  ⟨l, m, _, none, rfl, hl.ok, hm.ok, rfl, h⟩
theorem spr_sides {l m : List (Int × Int)} (hl : GoodK l) (hm : GoodK m) {s1 s3 : Sps} {P : D → Prop} (h : P (.str (repSd l m))) : spOr 0 s1 (spOr 1 (strS sp_Sides___repr__) s3) [.obj 1 [kD m, kD l]] (fun e _ => P e) (fun _ => False) := ⟨l, m, rfl, hl, hm, h⟩
def k12 : List (Int × Int) := [(1, 2)]
theorem good12 : GoodK k12 := ⟨by decide, by decide, by decide +kernel, by decide +kernel⟩
theorem ask_none {d : D} {t : Str} (h : ReprX d t) (hn : noSd d = true) {Qd : D → Bool → Prop} (q : Qd (.lst [.str "NotSides", .str t]) true) : ∃ xq q : D → Prop, (noSd d = true ∧ xq (.exc 29 [d])) ∧ sp__law_caught xq q Qd :=
  ⟨fun e => e = .exc 29 [d], fun _ => False, ⟨hn, rfl⟩, fun e he => ⟨29, d, _, _, he, rfl, h, q⟩, fun _ z => z.elim⟩
theorem ask_none2 {d : D} {t : Str} (h : ReprX d t) (hn : noSd d = true) {Qd : D → Bool → Prop} (q : Qd (.lst [.str "NotSides", .str t]) true) : ∃ xq q : D → Prop, (∃ d' e, [d, d] = [d', e] ∧ noSd d' = true ∧ xq (.exc 29 [d'])) ∧ sp__law_caught xq q Qd := by
  obtain ⟨xq, q, g1, g2⟩ := ask_none h hn q
  exact ⟨xq, q, ⟨d, d, rfl, g1⟩, g2⟩
theorem box_tame {d : D} (h : SomeK d) : ReprOk (.lst [d]) := by
  obtain ⟨_, h1, h2, h3, _⟩ := h
  refine .inl ⟨by simp [h1], by simp only [dep_l, deps_c, deps_n]; omega, ?_⟩
  show shW d + 2 + 0 + 3 ≤ 400000
  omega
theorem rx_ok {d : D} {t : Str} (h : ReprX d t) : PyData.strOk t = true := by
  rcases h with ⟨h, rfl⟩ | ⟨l, rfl, hl, rfl⟩
  · exact reprok_gs h
  · exact gs_ok (gs_app (gs_app (gs_app (gs_str "") (gs_str "Row of ")) (gs_str _)) (gs_str " kinds"))
def wipe1 (s : Sl) : Sl := match s with
  | .own _ => .no
  | s => s
theorem o_wipe_any {s : Sl} {ρ : Env} : wipeO (s :: ρ) = wipe1 s :: wipeO ρ := by cases s <;> rfl
theorem o_wipe1_sh {d : D} : wipe1 (.sh d) = .sh d := rfl
def r__law_right (T : Tx) : RS :=
  (sSeq (sFor (iRange1 (dConsB (dC (.int 6)) dNil)) (gN 1) (sSeq (sAsg (dTup (dCons (dOwn 1 sp__law_some (dPos 1 (dCons (dVar 0) dNil))) (dCons (dOwn 1 sp__law_some (dPos 1 (dCons (dVar 0) dNil))) dNil))) (gT 2 (gsCons (gN 2) (gsCons (gN 3) gsNil)))) (sSeq (sSet 4 (dIf (dTest (dOp fNe (dOwn 1 sp__law_wrong (dPos 1 (dCons (dVar 2) dNil))) (dC (.str "")))) (dLst (dCons (dC (.str "InvalidInner")) (dCons (dOwn 1 sp__law_wrong (dPos 1 (dCons (dVar 2) dNil))) dNil))) (dLst (dCons (dC (.str "InvalidOuter")) (dCons (dOwn 1 sp__law_wrong (dPos 1 (dCons (dVar 3) dNil))) dNil))))) (sSeq (sSet 5 (dLst (dCons (dCau [2, 3] (dMake 1 3 sp_Sides___init__ (dPos 2 (dCons (dVar 2) (dCons (dVar 3) dNil)))) sp__law_caught) dNil))) (sSeq (sWr 5 wApp (dCons (dCau [2, 3] (dMakeP [1, 0] 1 3 sp_Sides___init__ (dPos 2 (dCons (dVar 3) (dCons (dVar 2) dNil)))) sp__law_caught) dNil)) (sSeq (sIf (dAnd (dTest (dOp fNe (dOp fIxA (dVar 4) (dC (.int 1))) (dC (.str "")))) (dTest (dOp fNe (dVar 5) (dLst (dCons (dVar 4) (dCons (dVar 4) dNil)))))) (sSeq (sRet (dC (.bl false))) sNext) sNext) (sSeq (sIf (dTest (dOp fEq (dOp fIxA (dVar 4) (dC (.int 1))) (dC (.str "")))) (sSeq (sPar [7, 8] (dConsT (dOp fIxA (dOp fIxA (dVar 5) (dC (.int 0))) (dC (.int 1))) (dConsT (dOp fIxA (dOp fIxA (dVar 5) (dC (.int 1))) (dC (.int 1))) dNilT))) (sSeq (sIf (dOr (dTest (dOp fNe (dOp fIxA (dOp fIxA (dVar 5) (dC (.int 0))) (dC (.int 0))) (dC (.str "told")))) (dOr (dTest (dOpO fNe (spOq 0 (neS sp_Row___eq__) (spOq 1 (neS sp_Sides___eq__) spNone)) (dVar 7) (dVar 8))) (dOr (dTest (dOp fNe (dLst (dCons (dProp 1 sp_Sides_inner (dVar 7)) (dCons (dProp 1 sp_Sides_outer (dVar 7)) dNil))) (dLst (dCons (dVar 2) (dCons (dVar 3) dNil))))) (dTest (dOpO fEq (spOq 0 (eqS sp_Row___eq__) (spOq 1 (eqS sp_Sides___eq__) spNone)) (dVar 7) (dVar 2)))))) (sSeq (sRet (dC (.bl false))) sNext) sNext) (sSeq (sIf (dTest (dOp fNe (dCall1 fRepr (spOr 0 (strS sp_Row___repr__) (spOr 1 (strS sp_Sides___repr__) spNone)) (dVar 7)) (dOp fAdd (dOp fAdd (dOp fAdd (dOp fAdd (dC (.str "Sides of ")) (dCall fStr (dConsB (dCall fLen (dConsB (dVar 2) dNil)) dNil))) (dC (.str " and "))) (dCall fStr (dConsB (dCall fLen (dConsB (dVar 3) dNil)) dNil))) (dC (.str " kinds"))))) (sSeq (sRet (dC (.bl false))) sNext) sNext) (sSeq (sIf (dTest (dOp fNe (dOpO fEq (spOq 0 (eqS sp_Row___eq__) (spOq 1 (eqS sp_Sides___eq__) spNone)) (dVar 7) (dMake 1 3 sp_Sides___init__ (dPos 2 (dCons (dVar 3) (dCons (dVar 2) dNil))))) (dOp fEq (dVar 2) (dVar 3)))) (sSeq (sRet (dC (.bl false))) sNext) sNext) sNext)))) sNext) (sSeq (sSet 6 (dOwn 2 sp__law_pick (dPos 2 (dCons (dVar 0) (dCons (dLst (dCons (dC .non) (dCons (dC (.str "row")) (dCons (dC (.int 0)) (dCons (dTup dNil) (dCons (dLst (dCons (dVar 2) dNil)) (dCons (dMake 0 2 sp_Row___init__ (dPos 1 (dCons (dTup (dCons (dTup (dCons (dC (.int 1)) (dCons (dC (.int 2)) dNil))) dNil)) dNil))) (dCons (dC (.bl true)) (dCons (fun _ ρ Q => Q (.dic []) .f ρ) (dCons (dTup (dCons (dTup (dCons (dC (.int 1)) (dCons (dC (.int 2)) dNil))) dNil)) dNil)))))))))) dNil))))) (sSeq (sSet 5 (dLst (dCons (dCau [6] (dOwn 1 sp_sides_can_be (dPos 1 (dCons (dVar 6) dNil))) sp__law_caught) dNil))) (sSeq (sWr 5 wApp (dCons (dCau [6] (dOwn 1 sp_sides_one (dPos 1 (dCons (dVar 6) dNil))) sp__law_caught) dNil)) (sSeq (sWr 5 wApp (dCons (dCau [6] (dOwn 1 sp_alone_row (dPos 1 (dCons (dVar 6) dNil))) sp__law_caught) dNil)) (sSeq (sWr 5 wApp (dCons (dCau [6] (dOwn 2 sp_around (dPos 2 (dCons (dVar 6) (dCons (dVar 6) dNil)))) sp__law_caught) dNil)) (sSeq (sIf (dTest (dOp fNe (dVar 5) (dOp fMul (dLst (dCons (dLst (dCons (dC (.str "NotSides")) (dCons (dCall1 fRepr (spOr 0 (strS sp_Row___repr__) (spOr 1 (strS sp_Sides___repr__) spNone)) (dVar 6)) dNil))) dNil)) (dC (.int 4))))) (sSeq (sRet (dC (.bl false))) sNext) sNext) sNext))))))))))))) (sSeq (sRet (dC (.bl true))) sNext))
theorem pure__law_right (T : Tx) : ∀ ds Qd xd, ds.length = 1 → sp__law_right ds Qd xd → r__law_right T (kdOf Qd xd) (startE (["well", "again", "near", "far", "due", "told", "none", "mine", "mate"] : List Str) ds) := by
  rintro _ Qd xd _ ⟨rfl, q⟩
  have i6 : inR 6 := ⟨by decide, by decide⟩
  have z0 : (0 : Nat) ≤ sizeLine := by decide
  have z1 : (1 : Nat) ≤ sizeLine := by decide
  have z2 : (2 : Nat) ≤ sizeLine := by decide
  unfold r__law_right
  refine seq_bar fun K0 hK0 => ?_
  try simp only [oaa, oab, oac, oad, oae, oag, oah, oai, oak, oam, oan, oap, oaq, oar, oas, oaw, oax, oay, obd, obe, obg, obk, obn, obp, obq, obr, obv, ocb, occ, ocd, ocg, ocj, ock, ocm, ocn, ocp, ocq, ocr, ocs, oct, ocu, ocv, ocw, ocx, ocz, oda, ode, odh, odk, odm, odq, odr, ods, odt, odu, odv, List.getElem?_cons_zero, List.getElem?_cons_succ, List.map_cons, List.map_nil, List.cons_append, List.nil_append, List.append_nil, List.length_cons, List.length_nil, List.set_cons_zero, List.set_cons_succ, List.replicate, Nat.sub_self, Nat.zero_add, Nat.reduceAdd, Nat.reduceSub, if_true, if_false, Bool.false_eq_true, Bool.not_true, Bool.not_false, true_and, and_true, reduceIte, startE, frz, frz1, wipeE, Option.some.injEq, Sl.sh.injEq, Sl.own.injEq, odw, odx, ody, setD, unB, oeu, oev, oew, oex, oey, oez, ofa, ofc, ofd, ofr, ofs, oft, ofu, ofw, i6]
  refine loop_inv (fun i ρ => ∃ s1 s2 s3 s4 s5 s6 s7 s8, ρ = [.sh .ptr, s1, s2, s3, s4, s5, s6, s7, s8]) (n := 0) ⟨_, _, _, _, _, _, _, _, rfl⟩ (fun d hd i ρ K hi h next => ?_) (fun ρ h => ?_)
  · obtain ⟨s1, s2, s3, s4, s5, s6, s7, s8, rfl⟩ := h
    refine ⟨by simp, seq_bar fun K1 hK1 => ?_⟩
    try simp only [↓oaa, ↓oab, ↓oac, ↓oad, ↓oae, ↓oag, ↓oah, ↓oai, ↓oak, ↓oam, ↓oan, ↓oap, ↓oaq, ↓oar, ↓oas, ↓oaw, ↓oax, ↓oay, ↓obd, ↓obe, ↓obg, ↓obk, ↓obn, ↓obp, ↓obq, ↓obr, ↓obv, ↓ocb, ↓occ, ↓ocd, ↓ocg, ↓ocj, ↓ock, ↓ocm, ↓ocn, ↓ocp, ↓ocq, ↓ocr, ↓ocs, ↓oct, ↓ocu, ↓ocv, ↓ocw, ↓ocx, ↓ocz, ↓oda, ↓ode, ↓odh, ↓odk, ↓odm, ↓odq, ↓odr, ↓ods, ↓odt, ↓odu, ↓odv, ↓List.getElem?_cons_zero, ↓List.getElem?_cons_succ, ↓List.map_cons, ↓List.map_nil, ↓List.cons_append, ↓List.nil_append, ↓List.append_nil, ↓List.length_cons, ↓List.length_nil, ↓List.set_cons_zero, ↓List.set_cons_succ, ↓List.replicate, ↓Nat.sub_self, ↓Nat.zero_add, ↓Nat.reduceAdd, ↓Nat.reduceSub, ↓if_true, ↓if_false, ↓Bool.false_eq_true, ↓Bool.not_true, ↓Bool.not_false, ↓true_and, ↓and_true, ↓reduceIte, ↓startE, ↓frz, ↓frz1, ↓wipeE, ↓Option.some.injEq, ↓Sl.sh.injEq, ↓Sl.own.injEq, ↓odw, ↓odx, ↓ody, ↓setD, ↓unB, ↓oeu, ↓oev, ↓oew, ↓oex, ↓oey, ↓oez, ↓ofa, ↓ofc, ↓ofd, ↓ofr, ↓ofs, ↓oft, ↓ofu, ↓ofw, ↓z2, ↓Nat.reduceLT, ↓Nat.lt_add_one]
    refine ⟨rfl, fun a ha => ?_⟩
    try simp only [↓oaa, ↓oab, ↓oac, ↓oad, ↓oae, ↓oag, ↓oah, ↓oai, ↓oak, ↓oam, ↓oan, ↓oap, ↓oaq, ↓oar, ↓oas, ↓oaw, ↓oax, ↓oay, ↓obd, ↓obe, ↓obg, ↓obk, ↓obn, ↓obp, ↓obq, ↓obr, ↓obv, ↓ocb, ↓occ, ↓ocd, ↓ocg, ↓ocj, ↓ock, ↓ocm, ↓ocn, ↓ocp, ↓ocq, ↓ocr, ↓ocs, ↓oct, ↓ocu, ↓ocv, ↓ocw, ↓ocx, ↓ocz, ↓oda, ↓ode, ↓odh, ↓odk, ↓odm, ↓odq, ↓odr, ↓ods, ↓odt, ↓odu, ↓odv, ↓List.getElem?_cons_zero, ↓List.getElem?_cons_succ, ↓List.map_cons, ↓List.map_nil, ↓List.cons_append, ↓List.nil_append, ↓List.append_nil, ↓List.length_cons, ↓List.length_nil, ↓List.set_cons_zero, ↓List.set_cons_succ, ↓List.replicate, ↓Nat.sub_self, ↓Nat.zero_add, ↓Nat.reduceAdd, ↓Nat.reduceSub, ↓if_true, ↓if_false, ↓Bool.false_eq_true, ↓Bool.not_true, ↓Bool.not_false, ↓true_and, ↓and_true, ↓reduceIte, ↓startE, ↓frz, ↓frz1, ↓wipeE, ↓Option.some.injEq, ↓Sl.sh.injEq, ↓Sl.own.injEq, ↓odw, ↓odx, ↓ody, ↓setD, ↓unB, ↓oeu, ↓oev, ↓oew, ↓oex, ↓oey, ↓oez, ↓ofa, ↓ofc, ↓ofd, ↓ofr, ↓ofs, ↓oft, ↓ofu, ↓ofw, ↓z2, ↓Nat.reduceLT, ↓Nat.lt_add_one]
    refine ⟨rfl, fun c hc => ?_⟩
    try simp only [↓oaa, ↓oab, ↓oac, ↓oad, ↓oae, ↓oag, ↓oah, ↓oai, ↓oak, ↓oam, ↓oan, ↓oap, ↓oaq, ↓oar, ↓oas, ↓oaw, ↓oax, ↓oay, ↓obd, ↓obe, ↓obg, ↓obk, ↓obn, ↓obp, ↓obq, ↓obr, ↓obv, ↓ocb, ↓occ, ↓ocd, ↓ocg, ↓ocj, ↓ock, ↓ocm, ↓ocn, ↓ocp, ↓ocq, ↓ocr, ↓ocs, ↓oct, ↓ocu, ↓ocv, ↓ocw, ↓ocx, ↓ocz, ↓oda, ↓ode, ↓odh, ↓odk, ↓odm, ↓odq, ↓odr, ↓ods, ↓odt, ↓odu, ↓odv, ↓List.getElem?_cons_zero, ↓List.getElem?_cons_succ, ↓List.map_cons, ↓List.map_nil, ↓List.cons_append, ↓List.nil_append, ↓List.append_nil, ↓List.length_cons, ↓List.length_nil, ↓List.set_cons_zero, ↓List.set_cons_succ, ↓List.replicate, ↓Nat.sub_self, ↓Nat.zero_add, ↓Nat.reduceAdd, ↓Nat.reduceSub, ↓if_true, ↓if_false, ↓Bool.false_eq_true, ↓Bool.not_true, ↓Bool.not_false, ↓true_and, ↓and_true, ↓reduceIte, ↓startE, ↓frz, ↓frz1, ↓wipeE, ↓Option.some.injEq, ↓Sl.sh.injEq, ↓Sl.own.injEq, ↓odw, ↓odx, ↓ody, ↓setD, ↓unB, ↓oeu, ↓oev, ↓oew, ↓oex, ↓oey, ↓oez, ↓ofa, ↓ofc, ↓ofd, ↓ofr, ↓ofs, ↓oft, ↓ofu, ↓ofw, ↓z2, ↓Nat.reduceLT, ↓Nat.lt_add_one]
    refine hK1 _ (seq_bar fun K2 hK2 => ?_)
    have la : ∀ xs, a = .tup xs → xs.length ≤ 1000000 := fun xs e => by have := ha.2.2.2.2 xs e; omega
    have lc : ∀ xs, c = .tup xs → xs.length ≤ 1000000 := fun xs e => by have := hc.2.2.2.2 xs e; omega
    -- the end of a turn: what is no pair of sides
    have so : PyData.strOk ("" : Str) = true := by decide +kernel
    have lo : ∀ o, duS (wrongD a) (wrongD c) = some o → Lo (some o) := fun o e => by
      cases ea : wrongD a with
      | some o' => rw [ea] at e; cases e; exact ea ▸ wrong_lo a
      | none => rw [ea] at e; exact e ▸ wrong_lo c
    have k2 : K2 [.sh .ptr, .sh d, .sh a, .sh c, .own (.lst [.str (nmS (wrongD a)), .str (wrS (duS (wrongD a) (wrongD c)))]), s5, s6, s7, s8] := by
      refine hK2 _ (seq_bar fun K3 hK3 => ?_)
      try simp only [oaa, oab, oac, oad, oae, oag, oah, oai, oak, oam, oan, oap, oaq, oar, oas, oaw, oax, oay, obd, obe, obg, obk, obn, obp, obq, obr, obv, ocb, occ, ocd, ocg, ocj, ock, ocm, ocn, ocp, ocq, ocr, ocs, oct, ocu, ocv, ocw, ocx, ocz, oda, ode, odh, odk, odm, odq, odr, ods, odt, odu, odv, List.getElem?_cons_zero, List.getElem?_cons_succ, List.map_cons, List.map_nil, List.cons_append, List.nil_append, List.append_nil, List.length_cons, List.length_nil, List.set_cons_zero, List.set_cons_succ, List.replicate, Nat.sub_self, Nat.zero_add, Nat.reduceAdd, Nat.reduceSub, if_true, if_false, Bool.false_eq_true, Bool.not_true, Bool.not_false, true_and, and_true, reduceIte, startE, frz, frz1, wipeE, Option.some.injEq, Sl.sh.injEq, Sl.own.injEq, odw, odx, ody, setD, unB, oeu, oev, oew, oex, oey, oez, ofa, ofc, ofd, ofr, ofs, oft, ofu, ofw]
      refine ask_sides ha.1 hc.1 ⟨z1, ?_⟩
      refine hK3 _ (seq_bar fun K4 hK4 => ?_)
      try simp only [oaa, oab, oac, oad, oae, oag, oah, oai, oak, oam, oan, oap, oaq, oar, oas, oaw, oax, oay, obd, obe, obg, obk, obn, obp, obq, obr, obv, ocb, occ, ocd, ocg, ocj, ock, ocm, ocn, ocp, ocq, ocr, ocs, oct, ocu, ocv, ocw, ocx, ocz, oda, ode, odh, odk, odm, odq, odr, ods, odt, odu, odv, List.getElem?_cons_zero, List.getElem?_cons_succ, List.map_cons, List.map_nil, List.cons_append, List.nil_append, List.append_nil, List.length_cons, List.length_nil, List.set_cons_zero, List.set_cons_succ, List.replicate, Nat.sub_self, Nat.zero_add, Nat.reduceAdd, Nat.reduceSub, if_true, if_false, Bool.false_eq_true, Bool.not_true, Bool.not_false, true_and, and_true, reduceIte, startE, frz, frz1, wipeE, Option.some.injEq, Sl.sh.injEq, Sl.own.injEq, odw, odx, ody, setD, unB, oeu, oev, oew, oex, oey, oez, ofa, ofc, ofd, ofr, ofs, oft, ofu, ofw]
      refine ⟨trivial, ask_sides ha.1 hc.1 ?_⟩
      try simp only [oaa, oab, oac, oad, oae, oag, oah, oai, oak, oam, oan, oap, oaq, oar, oas, oaw, oax, oay, obd, obe, obg, obk, obn, obp, obq, obr, obv, ocb, occ, ocd, ocg, ocj, ock, ocm, ocn, ocp, ocq, ocr, ocs, oct, ocu, ocv, ocw, ocx, ocz, oda, ode, odh, odk, odm, odq, odr, ods, odt, odu, odv, List.getElem?_cons_zero, List.getElem?_cons_succ, List.map_cons, List.map_nil, List.cons_append, List.nil_append, List.append_nil, List.length_cons, List.length_nil, List.set_cons_zero, List.set_cons_succ, List.replicate, Nat.sub_self, Nat.zero_add, Nat.reduceAdd, Nat.reduceSub, if_true, if_false, Bool.false_eq_true, Bool.not_true, Bool.not_false, true_and, and_true, reduceIte, startE, frz, frz1, wipeE, Option.some.injEq, Sl.sh.injEq, Sl.own.injEq, odw, odx, ody, setD, unB, oeu, oev, oew, oex, oey, oez, ofa, ofc, ofd, ofr, ofs, oft, ofu, ofw, wApp]
      refine ⟨by decide, ?_⟩
      refine hK4 _ (seq_bar fun K5 hK5 => if_bar fun A B hA hB => ?_)
      have e0 : (wrS none == ("" : Str)) = true := by decide +kernel
      have at1 : ∀ o, atI [D.str (nmS (wrongD a)), .str (wrS o)] 1 = some (.str (wrS o)) := fun _ => rfl
      -- behind the first test
      have k5 : ∀ s4, (s4 = .own (.lst [.str (nmS (wrongD a)), .str (wrS (duS (wrongD a) (wrongD c)))]) ∨ s4 = .sh (.lst [.str (nmS (wrongD a)), .str (wrS (duS (wrongD a) (wrongD c)))])) → K5 [.sh .ptr, .sh d, .sh a, .sh c, s4, .own (.lst [outS a c, outS a c]), s6, s7, s8] := fun s4 h4 => by
        refine hK5 _ (seq_bar fun K6 hK6 => if_bar fun A B hA hB => ?_)
        -- what is no pair of sides
        have k6 : ∀ s5 s7 s8, K6 [.sh .ptr, .sh d, .sh a, .sh c, s4, s5, s6, s7, s8] := fun s5 s7 s8 => by
          refine hK6 _ (seq_bar fun K7 hK7 => ?_)
          try simp only [↓oaa, ↓oab, ↓oac, ↓oad, ↓oae, ↓oag, ↓oah, ↓oai, ↓oak, ↓oam, ↓oan, ↓oap, ↓oaq, ↓oar, ↓oas, ↓oaw, ↓oax, ↓oay, ↓obd, ↓obe, ↓obg, ↓obk, ↓obn, ↓obp, ↓obq, ↓obr, ↓obv, ↓ocb, ↓occ, ↓ocd, ↓ocg, ↓ocj, ↓ock, ↓ocm, ↓ocn, ↓ocp, ↓ocq, ↓ocr, ↓ocs, ↓oct, ↓ocu, ↓ocv, ↓ocw, ↓ocx, ↓ocz, ↓oda, ↓ode, ↓odh, ↓odk, ↓odm, ↓odq, ↓odr, ↓ods, ↓odt, ↓odu, ↓odv, ↓List.getElem?_cons_zero, ↓List.getElem?_cons_succ, ↓List.map_cons, ↓List.map_nil, ↓List.cons_append, ↓List.nil_append, ↓List.append_nil, ↓List.length_cons, ↓List.length_nil, ↓List.set_cons_zero, ↓List.set_cons_succ, ↓List.replicate, ↓Nat.sub_self, ↓Nat.zero_add, ↓Nat.reduceAdd, ↓Nat.reduceSub, ↓if_true, ↓if_false, ↓Bool.false_eq_true, ↓Bool.not_true, ↓Bool.not_false, ↓true_and, ↓and_true, ↓reduceIte, ↓startE, ↓frz, ↓frz1, ↓wipeE, ↓Option.some.injEq, ↓Sl.sh.injEq, ↓Sl.own.injEq, ↓odw, ↓odx, ↓ody, ↓setD, ↓unB, ↓oeu, ↓oev, ↓oew, ↓oex, ↓oey, ↓oez, ↓ofa, ↓ofc, ↓ofd, ↓ofr, ↓ofs, ↓oft, ↓ofu, ↓ofw, ↓z0, ↓z1, ↓z2]
          refine ⟨_, rfl, plain_kD k12, fun _ => ⟨by decide, _, .inl rfl, by simp, by simp, fun n hn => ?_⟩, fun o e => (by rw [show D.tup [.tup [.int 1, .int 2]] = kD k12 from rfl, wrongD_good good12] at e; cases e)⟩
          obtain ⟨hs, t, ht⟩ : noSd n = true ∧ ∃ t, ReprX n t := by
            simp only [List.mem_cons, List.not_mem_nil, or_false] at hn
            rcases hn with rfl | rfl | rfl | rfl | rfl | rfl | rfl | rfl | rfl
            · exact ⟨rfl, _, .inl ⟨.inl ⟨rfl, by decide, by decide⟩, rfl⟩⟩
            · exact ⟨rfl, _, .inl ⟨.inl ⟨by decide +kernel, by decide, by decide +kernel⟩, rfl⟩⟩
            · exact ⟨rfl, _, .inl ⟨.inl ⟨by decide +kernel, by decide, by decide⟩, rfl⟩⟩
            · exact ⟨rfl, _, .inl ⟨.inl ⟨rfl, by decide, by decide⟩, rfl⟩⟩
            · exact ⟨rfl, _, .inl ⟨box_tame ha, rfl⟩⟩
            · exact ⟨rfl, _, .inr ⟨k12, rfl, good12, rfl⟩⟩
            · exact ⟨rfl, _, .inl ⟨.inl ⟨rfl, by decide, by decide⟩, rfl⟩⟩
            · exact ⟨rfl, _, .inl ⟨dic0_ok, rfl⟩⟩
            · exact ⟨rfl, _, .inl ⟨.inl ⟨by decide +kernel, by decide, by decide +kernel⟩, rfl⟩⟩
          clear hn
          try simp only [oaa, oab, oac, oad, oae, oag, oah, oai, oak, oam, oan, oap, oaq, oar, oas, oaw, oax, oay, obd, obe, obg, obk, obn, obp, obq, obr, obv, ocb, occ, ocd, ocg, ocj, ock, ocm, ocn, ocp, ocq, ocr, ocs, oct, ocu, ocv, ocw, ocx, ocz, oda, ode, odh, odk, odm, odq, odr, ods, odt, odu, odv, List.getElem?_cons_zero, List.getElem?_cons_succ, List.map_cons, List.map_nil, List.cons_append, List.nil_append, List.append_nil, List.length_cons, List.length_nil, List.set_cons_zero, List.set_cons_succ, List.replicate, Nat.sub_self, Nat.zero_add, Nat.reduceAdd, Nat.reduceSub, if_true, if_false, Bool.false_eq_true, Bool.not_true, Bool.not_false, true_and, and_true, reduceIte, startE, frz, frz1, wipeE, Option.some.injEq, Sl.sh.injEq, Sl.own.injEq, odw, odx, ody, setD, unB, oeu, oev, oew, oex, oey, oez, ofa, ofc, ofd, ofr, ofs, oft, ofu, ofw]
          have k7 : K7 [.sh .ptr, .sh d, .sh a, .sh c, s4, s5, .sh n, s7, s8] := by
            refine hK7 _ (seq_bar fun K8 hK8 => ?_)
            try simp only [oaa, oab, oac, oad, oae, oag, oah, oai, oak, oam, oan, oap, oaq, oar, oas, oaw, oax, oay, obd, obe, obg, obk, obn, obp, obq, obr, obv, ocb, occ, ocd, ocg, ocj, ock, ocm, ocn, ocp, ocq, ocr, ocs, oct, ocu, ocv, ocw, ocx, ocz, oda, ode, odh, odk, odm, odq, odr, ods, odt, odu, odv, List.getElem?_cons_zero, List.getElem?_cons_succ, List.map_cons, List.map_nil, List.cons_append, List.nil_append, List.append_nil, List.length_cons, List.length_nil, List.set_cons_zero, List.set_cons_succ, List.replicate, Nat.sub_self, Nat.zero_add, Nat.reduceAdd, Nat.reduceSub, if_true, if_false, Bool.false_eq_true, Bool.not_true, Bool.not_false, true_and, and_true, reduceIte, startE, frz, frz1, wipeE, Option.some.injEq, Sl.sh.injEq, Sl.own.injEq, odw, odx, ody, setD, unB, oeu, oev, oew, oex, oey, oez, ofa, ofc, ofd, ofr, ofs, oft, ofu, ofw, sp_sides_can_be, o_wipe_any, o_wipe1_sh, List.cons.injEq, and_true, exists_eq_left']
            refine ask_none ht hs ⟨z1, ?_⟩
            try simp only [oaa, oab, oac, oad, oae, oag, oah, oai, oak, oam, oan, oap, oaq, oar, oas, oaw, oax, oay, obd, obe, obg, obk, obn, obp, obq, obr, obv, ocb, occ, ocd, ocg, ocj, ock, ocm, ocn, ocp, ocq, ocr, ocs, oct, ocu, ocv, ocw, ocx, ocz, oda, ode, odh, odk, odm, odq, odr, ods, odt, odu, odv, List.getElem?_cons_zero, List.getElem?_cons_succ, List.map_cons, List.map_nil, List.cons_append, List.nil_append, List.append_nil, List.length_cons, List.length_nil, List.set_cons_zero, List.set_cons_succ, List.replicate, Nat.sub_self, Nat.zero_add, Nat.reduceAdd, Nat.reduceSub, if_true, if_false, Bool.false_eq_true, Bool.not_true, Bool.not_false, true_and, and_true, reduceIte, startE, frz, frz1, wipeE, Option.some.injEq, Sl.sh.injEq, Sl.own.injEq, odw, odx, ody, setD, unB, oeu, oev, oew, oex, oey, oez, ofa, ofc, ofd, ofr, ofs, oft, ofu, ofw]
            refine hK8 _ (seq_bar fun K9 hK9 => ?_)
            try simp only [oaa, oab, oac, oad, oae, oag, oah, oai, oak, oam, oan, oap, oaq, oar, oas, oaw, oax, oay, obd, obe, obg, obk, obn, obp, obq, obr, obv, ocb, occ, ocd, ocg, ocj, ock, ocm, ocn, ocp, ocq, ocr, ocs, oct, ocu, ocv, ocw, ocx, ocz, oda, ode, odh, odk, odm, odq, odr, ods, odt, odu, odv, List.getElem?_cons_zero, List.getElem?_cons_succ, List.map_cons, List.map_nil, List.cons_append, List.nil_append, List.append_nil, List.length_cons, List.length_nil, List.set_cons_zero, List.set_cons_succ, List.replicate, Nat.sub_self, Nat.zero_add, Nat.reduceAdd, Nat.reduceSub, if_true, if_false, Bool.false_eq_true, Bool.not_true, Bool.not_false, true_and, and_true, reduceIte, startE, frz, frz1, wipeE, Option.some.injEq, Sl.sh.injEq, Sl.own.injEq, odw, odx, ody, setD, unB, oeu, oev, oew, oex, oey, oez, ofa, ofc, ofd, ofr, ofs, oft, ofu, ofw, sp_sides_one, o_wipe_any, o_wipe1_sh, List.cons.injEq, and_true, exists_eq_left', wApp]
            have y1 : (1 : Nat) < sizeLine := by decide
            have y2 : (2 : Nat) < sizeLine := by decide
            have y3 : (3 : Nat) < sizeLine := by decide
            refine ⟨trivial, ask_none ht hs ⟨y1, ?_⟩⟩
            try simp only [oaa, oab, oac, oad, oae, oag, oah, oai, oak, oam, oan, oap, oaq, oar, oas, oaw, oax, oay, obd, obe, obg, obk, obn, obp, obq, obr, obv, ocb, occ, ocd, ocg, ocj, ock, ocm, ocn, ocp, ocq, ocr, ocs, oct, ocu, ocv, ocw, ocx, ocz, oda, ode, odh, odk, odm, odq, odr, ods, odt, odu, odv, List.getElem?_cons_zero, List.getElem?_cons_succ, List.map_cons, List.map_nil, List.cons_append, List.nil_append, List.append_nil, List.length_cons, List.length_nil, List.set_cons_zero, List.set_cons_succ, List.replicate, Nat.sub_self, Nat.zero_add, Nat.reduceAdd, Nat.reduceSub, if_true, if_false, Bool.false_eq_true, Bool.not_true, Bool.not_false, true_and, and_true, reduceIte, startE, frz, frz1, wipeE, Option.some.injEq, Sl.sh.injEq, Sl.own.injEq, odw, odx, ody, setD, unB, oeu, oev, oew, oex, oey, oez, ofa, ofc, ofd, ofr, ofs, oft, ofu, ofw]
            refine hK9 _ (seq_bar fun K10 hK10 => ?_)
            try simp only [oaa, oab, oac, oad, oae, oag, oah, oai, oak, oam, oan, oap, oaq, oar, oas, oaw, oax, oay, obd, obe, obg, obk, obn, obp, obq, obr, obv, ocb, occ, ocd, ocg, ocj, ock, ocm, ocn, ocp, ocq, ocr, ocs, oct, ocu, ocv, ocw, ocx, ocz, oda, ode, odh, odk, odm, odq, odr, ods, odt, odu, odv, List.getElem?_cons_zero, List.getElem?_cons_succ, List.map_cons, List.map_nil, List.cons_append, List.nil_append, List.append_nil, List.length_cons, List.length_nil, List.set_cons_zero, List.set_cons_succ, List.replicate, Nat.sub_self, Nat.zero_add, Nat.reduceAdd, Nat.reduceSub, if_true, if_false, Bool.false_eq_true, Bool.not_true, Bool.not_false, true_and, and_true, reduceIte, startE, frz, frz1, wipeE, Option.some.injEq, Sl.sh.injEq, Sl.own.injEq, odw, odx, ody, setD, unB, oeu, oev, oew, oex, oey, oez, ofa, ofc, ofd, ofr, ofs, oft, ofu, ofw, sp_alone_row, o_wipe_any, o_wipe1_sh, List.cons.injEq, and_true, exists_eq_left', wApp]
            refine ⟨trivial, ask_none ht hs ⟨y2, ?_⟩⟩
            try simp only [oaa, oab, oac, oad, oae, oag, oah, oai, oak, oam, oan, oap, oaq, oar, oas, oaw, oax, oay, obd, obe, obg, obk, obn, obp, obq, obr, obv, ocb, occ, ocd, ocg, ocj, ock, ocm, ocn, ocp, ocq, ocr, ocs, oct, ocu, ocv, ocw, ocx, ocz, oda, ode, odh, odk, odm, odq, odr, ods, odt, odu, odv, List.getElem?_cons_zero, List.getElem?_cons_succ, List.map_cons, List.map_nil, List.cons_append, List.nil_append, List.append_nil, List.length_cons, List.length_nil, List.set_cons_zero, List.set_cons_succ, List.replicate, Nat.sub_self, Nat.zero_add, Nat.reduceAdd, Nat.reduceSub, if_true, if_false, Bool.false_eq_true, Bool.not_true, Bool.not_false, true_and, and_true, reduceIte, startE, frz, frz1, wipeE, Option.some.injEq, Sl.sh.injEq, Sl.own.injEq, odw, odx, ody, setD, unB, oeu, oev, oew, oex, oey, oez, ofa, ofc, ofd, ofr, ofs, oft, ofu, ofw]
            refine hK10 _ (seq_bar fun K11 hK11 => ?_)
            try simp only [oaa, oab, oac, oad, oae, oag, oah, oai, oak, oam, oan, oap, oaq, oar, oas, oaw, oax, oay, obd, obe, obg, obk, obn, obp, obq, obr, obv, ocb, occ, ocd, ocg, ocj, ock, ocm, ocn, ocp, ocq, ocr, ocs, oct, ocu, ocv, ocw, ocx, ocz, oda, ode, odh, odk, odm, odq, odr, ods, odt, odu, odv, List.getElem?_cons_zero, List.getElem?_cons_succ, List.map_cons, List.map_nil, List.cons_append, List.nil_append, List.append_nil, List.length_cons, List.length_nil, List.set_cons_zero, List.set_cons_succ, List.replicate, Nat.sub_self, Nat.zero_add, Nat.reduceAdd, Nat.reduceSub, if_true, if_false, Bool.false_eq_true, Bool.not_true, Bool.not_false, true_and, and_true, reduceIte, startE, frz, frz1, wipeE, Option.some.injEq, Sl.sh.injEq, Sl.own.injEq, odw, odx, ody, setD, unB, oeu, oev, oew, oex, oey, oez, ofa, ofc, ofd, ofr, ofs, oft, ofu, ofw, sp_around, o_wipe_any, o_wipe1_sh, wApp]
            refine ⟨trivial, ask_none2 ht hs ⟨y3, ?_⟩⟩
            try simp only [oaa, oab, oac, oad, oae, oag, oah, oai, oak, oam, oan, oap, oaq, oar, oas, oaw, oax, oay, obd, obe, obg, obk, obn, obp, obq, obr, obv, ocb, occ, ocd, ocg, ocj, ock, ocm, ocn, ocp, ocq, ocr, ocs, oct, ocu, ocv, ocw, ocx, ocz, oda, ode, odh, odk, odm, odq, odr, ods, odt, odu, odv, List.getElem?_cons_zero, List.getElem?_cons_succ, List.map_cons, List.map_nil, List.cons_append, List.nil_append, List.append_nil, List.length_cons, List.length_nil, List.set_cons_zero, List.set_cons_succ, List.replicate, Nat.sub_self, Nat.zero_add, Nat.reduceAdd, Nat.reduceSub, if_true, if_false, Bool.false_eq_true, Bool.not_true, Bool.not_false, true_and, and_true, reduceIte, startE, frz, frz1, wipeE, Option.some.injEq, Sl.sh.injEq, Sl.own.injEq, odw, odx, ody, setD, unB, oeu, oev, oew, oex, oey, oez, ofa, ofc, ofd, ofr, ofs, oft, ofu, ofw]
            refine hK11 _ (seq_bar fun K12 hK12 => if_bar fun A2 B2 hA2 hB2 => ?_)
            have zz : ([D.lst [.str "NotSides", .str t]].length * (4 : Int).toNat) ≤ sizeLine := show 4 ≤ sizeLine by decide
            have eR : (List.replicate (4 : Int).toNat [D.lst [.str "NotSides", .str t]]).flatten = [.lst [.str "NotSides", .str t], .lst [.str "NotSides", .str t], .lst [.str "NotSides", .str t], .lst [.str "NotSides", .str t]] := rfl
            have so2 : PyData.strOk ("NotSides" : Str) = true := by decide +kernel
            have tm : tame (.lst [.lst [.str "NotSides", .str t], .lst [.str "NotSides", .str t], .lst [.str "NotSides", .str t], .lst [.str "NotSides", .str t]]) = true := by simp [so2, rx_ok ht]
            try simp only [oaa, oab, oac, oad, oae, oag, oah, oai, oak, oam, oan, oap, oaq, oar, oas, oaw, oax, oay, obd, obe, obg, obk, obn, obp, obq, obr, obv, o_call1q, occ, ocd, ocg, ocj, ock, ocm, ocn, ocp, ocq, ocr, ocs, oct, ocu, ocv, ocw, ocx, ocz, oda, ode, odh, odk, odm, odq, odr, ods, odt, odu, odv, List.getElem?_cons_zero, List.getElem?_cons_succ, List.map_cons, List.map_nil, List.cons_append, List.nil_append, List.append_nil, List.length_cons, List.length_nil, List.set_cons_zero, List.set_cons_succ, List.replicate, Nat.sub_self, Nat.zero_add, Nat.reduceAdd, Nat.reduceSub, if_true, if_false, Bool.false_eq_true, Bool.not_true, Bool.not_false, true_and, and_true, reduceIte, startE, frz, frz1, wipeE, Option.some.injEq, Sl.sh.injEq, Sl.own.injEq, odw, odx, ody, setD, unB, oeu, oev, oew, oex, oey, oez, ofa, ofc, ofd, ofr, ofs, oft, ofu, ofw, z1, z2]
            have fin : B2 [.sh .ptr, .sh d, .sh a, .sh c, s4, .own (.lst [.lst [.str "NotSides", .str t], .lst [.str "NotSides", .str t], .lst [.str "NotSides", .str t], .lst [.str "NotSides", .str t]]), .sh n, s7, s8] := by
              refine hB2 _ ?_
              try simp only [oaa, oab, oac, oad, oae, oag, oah, oai, oak, oam, oan, oap, oaq, oar, oas, oaw, oax, oay, obd, obe, obg, obk, obn, obp, obq, obr, obv, ocb, occ, ocd, ocg, ocj, ock, ocm, ocn, ocp, ocq, ocr, ocs, oct, ocu, ocv, ocw, ocx, ocz, oda, ode, odh, odk, odm, odq, odr, ods, odt, odu, odv, List.getElem?_cons_zero, List.getElem?_cons_succ, List.map_cons, List.map_nil, List.cons_append, List.nil_append, List.append_nil, List.length_cons, List.length_nil, List.set_cons_zero, List.set_cons_succ, List.replicate, Nat.sub_self, Nat.zero_add, Nat.reduceAdd, Nat.reduceSub, if_true, if_false, Bool.false_eq_true, Bool.not_true, Bool.not_false, true_and, and_true, reduceIte, startE, frz, frz1, wipeE, Option.some.injEq, Sl.sh.injEq, Sl.own.injEq, odw, odx, ody, setD, unB, oeu, oev, oew, oex, oey, oez, ofa, ofc, ofd, ofr, ofs, oft, ofu, ofw]
              refine hK12 _ ?_
              try simp only [oaa, oab, oac, oad, oae, oag, oah, oai, oak, oam, oan, oap, oaq, oar, oas, oaw, oax, oay, obd, obe, obg, obk, obn, obp, obq, obr, obv, ocb, occ, ocd, ocg, ocj, ock, ocm, ocn, ocp, ocq, ocr, ocs, oct, ocu, ocv, ocw, ocx, ocz, oda, ode, odh, odk, odm, odq, odr, ods, odt, odu, odv, List.getElem?_cons_zero, List.getElem?_cons_succ, List.map_cons, List.map_nil, List.cons_append, List.nil_append, List.append_nil, List.length_cons, List.length_nil, List.set_cons_zero, List.set_cons_succ, List.replicate, Nat.sub_self, Nat.zero_add, Nat.reduceAdd, Nat.reduceSub, if_true, if_false, Bool.false_eq_true, Bool.not_true, Bool.not_false, true_and, and_true, reduceIte, startE, frz, frz1, wipeE, Option.some.injEq, Sl.sh.injEq, Sl.own.injEq, odw, odx, ody, setD, unB, oeu, oev, oew, oex, oey, oez, ofa, ofc, ofd, ofr, ofs, oft, ofu, ofw]
              exact next _ ⟨_, _, _, _, _, _, _, _, rfl⟩
            have d60 : dep (.lst [.lst [.str "NotSides", .str t], .lst [.str "NotSides", .str t], .lst [.str "NotSides", .str t], .lst [.str "NotSides", .str t]]) ≤ 60 := show dep (.lst [.lst [.str "", .str ""], .lst [.str "", .str ""], .lst [.str "", .str ""], .lst [.str "", .str ""]]) ≤ 60 from by decide
            refine repr_xo ht ⟨by decide, by decide, zz, ?_⟩ ⟨by decide, by decide, zz, ?_⟩
            · rw [eR]
              exact (v_neself tm d60).mpr fin
            · rw [eR]
              exact (v_neself tm d60).mpr fin
          exact k7
        have go : ∀ C : Prop, (if (wrS (duS (wrongD a) (wrongD c)) == ("" : Str)) = true then A [.sh .ptr, .sh d, .sh a, .sh c, s4, .own (.lst [outS a c, outS a c]), s6, s7, s8] else B [.sh .ptr, .sh d, .sh a, .sh c, s4, .own (.lst [outS a c, outS a c]), s6, s7, s8]) := fun _ => by
          cases ed : duS (wrongD a) (wrongD c) with
          | some o =>
            rw [wrS_ne (lo o ed), if_neg (by decide)]
            refine hB _ ?_
            try simp only [oaa, oab, oac, oad, oae, oag, oah, oai, oak, oam, oan, oap, oaq, oar, oas, oaw, oax, oay, obd, obe, obg, obk, obn, obp, obq, obr, obv, ocb, occ, ocd, ocg, ocj, ock, ocm, ocn, ocp, ocq, ocr, ocs, oct, ocu, ocv, ocw, ocx, ocz, oda, ode, odh, odk, odm, odq, odr, ods, odt, odu, odv, List.getElem?_cons_zero, List.getElem?_cons_succ, List.map_cons, List.map_nil, List.cons_append, List.nil_append, List.append_nil, List.length_cons, List.length_nil, List.set_cons_zero, List.set_cons_succ, List.replicate, Nat.sub_self, Nat.zero_add, Nat.reduceAdd, Nat.reduceSub, if_true, if_false, Bool.false_eq_true, Bool.not_true, Bool.not_false, true_and, and_true, reduceIte, startE, frz, frz1, wipeE, Option.some.injEq, Sl.sh.injEq, Sl.own.injEq, odw, odx, ody, setD, unB, oeu, oev, oew, oex, oey, oez, ofa, ofc, ofd, ofr, ofs, oft, ofu, ofw]
            exact k6 _ _ _
          | none =>
            rw [e0, if_pos rfl]
            have ea : wrongD a = none := by
              cases e : wrongD a with
              | none => rfl
              | some o => rw [e] at ed; cases ed
            rw [ea] at ed
            have ec : wrongD c = none := ed
            obtain ⟨l, rfl, hl⟩ := wrongD_none ea
            obtain ⟨m, rfl, hm⟩ := wrongD_none ec
            have eO : outS (kD l) (kD m) = .lst [.str "told", .obj 1 [kD m, kD l]] := by unfold outS; rw [ea, ec]; rfl
            rw [eO]
            refine hA _ (seq_bar fun K7 hK7 => ?_)
            have a0 : atI [D.lst [.str "told", .obj 1 [kD m, kD l]], .lst [.str "told", .obj 1 [kD m, kD l]]] 0 = some (.lst [.str "told", .obj 1 [kD m, kD l]]) := rfl
            have a1 : atI [D.lst [.str "told", .obj 1 [kD m, kD l]], .lst [.str "told", .obj 1 [kD m, kD l]]] 1 = some (.lst [.str "told", .obj 1 [kD m, kD l]]) := rfl
            have b0 : atI [D.str "told", .obj 1 [kD m, kD l]] 0 = some (.str "told") := rfl
            have b1 : atI [D.str "told", .obj 1 [kD m, kD l]] 1 = some (.obj 1 [kD m, kD l]) := rfl
            try simp only [↓oaa, ↓oab, ↓oac, ↓oad, ↓oae, ↓oag, ↓oah, ↓oai, ↓oak, ↓oam, ↓oan, ↓oap, ↓oaq, ↓oar, ↓oas, ↓oaw, ↓oax, ↓oay, ↓obd, ↓obe, ↓obg, ↓obk, ↓obn, ↓obp, ↓obq, ↓obr, ↓obv, ↓ocb, ↓occ, ↓ocd, ↓ocg, ↓ocj, ↓ock, ↓ocm, ↓ocn, ↓ocp, ↓ocq, ↓ocr, ↓ocs, ↓oct, ↓ocu, ↓ocv, ↓ocw, ↓ocx, ↓ocz, ↓oda, ↓ode, ↓odh, ↓odk, ↓odm, ↓odq, ↓odr, ↓ods, ↓odt, ↓odu, ↓odv, ↓List.getElem?_cons_zero, ↓List.getElem?_cons_succ, ↓List.map_cons, ↓List.map_nil, ↓List.cons_append, ↓List.nil_append, ↓List.append_nil, ↓List.length_cons, ↓List.length_nil, ↓List.set_cons_zero, ↓List.set_cons_succ, ↓List.replicate, ↓Nat.sub_self, ↓Nat.zero_add, ↓Nat.reduceAdd, ↓Nat.reduceSub, ↓if_true, ↓if_false, ↓Bool.false_eq_true, ↓Bool.not_true, ↓Bool.not_false, ↓true_and, ↓and_true, ↓reduceIte, ↓startE, ↓frz, ↓frz1, ↓wipeE, ↓Option.some.injEq, ↓Sl.sh.injEq, ↓Sl.own.injEq, ↓odw, ↓odx, ↓ody, ↓setD, ↓unB, ↓oeu, ↓oev, ↓oew, ↓oex, ↓oey, ↓oez, ↓ofa, ↓ofc, ↓ofd, ↓ofr, ↓ofs, ↓oft, ↓ofu, ↓ofw, ↓v_ixl a0, ↓v_ixl a1, ↓v_ixl b1]
            refine hK7 _ (seq_bar fun K8 hK8 => if_bar fun A2 B2 hA2 hB2 => ?_)
            try simp only [oaa, oab, oac, oad, oae, oag, oah, oai, oak, oam, oan, oap, oaq, oar, oas, oaw, oax, oay, obd, obe, obg, obk, obn, obp, obq, obr, obv, ocb, occ, ocd, ocg, ocj, ock, ocm, ocn, ocp, ocq, ocr, ocs, oct, ocu, ocv, ocw, ocx, ocz, oda, ode, odh, odk, odm, odq, odr, ods, odt, odu, odv, List.getElem?_cons_zero, List.getElem?_cons_succ, List.map_cons, List.map_nil, List.cons_append, List.nil_append, List.append_nil, List.length_cons, List.length_nil, List.set_cons_zero, List.set_cons_succ, List.replicate, Nat.sub_self, Nat.zero_add, Nat.reduceAdd, Nat.reduceSub, if_true, if_false, Bool.false_eq_true, Bool.not_true, Bool.not_false, true_and, and_true, reduceIte, startE, frz, frz1, wipeE, Option.some.injEq, Sl.sh.injEq, Sl.own.injEq, odw, odx, ody, setD, unB, oeu, oev, oew, oex, oey, oez, ofa, ofc, ofd, ofr, ofs, oft, ofu, ofw, v_ixl a0, v_ixl b0, v_nes (x := "told") (y := "told") (by decide +kernel) (by decide +kernel), (by decide +kernel : (!(("told" : Str) == ("told" : Str))) = false), sp_Sides_inner, sp_Sides_outer, o_opO]
            refine spo_sides rfl (ne_sides hl hm hl hm ?_)
            try simp only [oaa, oab, oac, oad, oae, oag, oah, oai, oak, oam, oan, oap, oaq, oar, oas, oaw, oax, oay, obd, obe, obg, obk, obn, obp, obq, obr, obv, ocb, occ, ocd, ocg, ocj, ock, ocm, ocn, ocp, ocq, ocr, ocs, oct, ocu, ocv, ocw, ocx, ocz, oda, ode, odh, odk, odm, odq, odr, ods, odt, odu, odv, List.getElem?_cons_zero, List.getElem?_cons_succ, List.map_cons, List.map_nil, List.cons_append, List.nil_append, List.append_nil, List.length_cons, List.length_nil, List.set_cons_zero, List.set_cons_succ, List.replicate, Nat.sub_self, Nat.zero_add, Nat.reduceAdd, Nat.reduceSub, if_true, if_false, Bool.false_eq_true, Bool.not_true, Bool.not_false, true_and, and_true, reduceIte, startE, frz, frz1, wipeE, Option.some.injEq, Sl.sh.injEq, Sl.own.injEq, odw, odx, ody, setD, unB, oeu, oev, oew, oex, oey, oez, ofa, ofc, ofd, ofr, ofs, oft, ofu, ofw, decide_true, Bool.not_true]
            refine ⟨_, _, rfl, _, _, rfl, z2, z2, ?_⟩
            have tm : tame (.lst [kD l, kD m]) = true := by
              have h1 := tame_kD hl.ok
              have h2 := tame_kD hm.ok
              simp [h1, h2]
            rw [v_neself tm (by have := dep_kD l; have := dep_kD m; simp only [dep_l, deps_c, deps_n]; omega)]
            try simp only [oaa, oab, oac, oad, oae, oag, oah, oai, oak, oam, oan, oap, oaq, oar, oas, oaw, oax, oay, obd, obe, obg, obk, obn, obp, obq, obr, obv, ocb, occ, ocd, ocg, ocj, ock, ocm, ocn, ocp, ocq, ocr, ocs, oct, ocu, ocv, ocw, ocx, ocz, oda, ode, odh, odk, odm, odq, odr, ods, odt, odu, odv, List.getElem?_cons_zero, List.getElem?_cons_succ, List.map_cons, List.map_nil, List.cons_append, List.nil_append, List.append_nil, List.length_cons, List.length_nil, List.set_cons_zero, List.set_cons_succ, List.replicate, Nat.sub_self, Nat.zero_add, Nat.reduceAdd, Nat.reduceSub, if_true, if_false, Bool.false_eq_true, Bool.not_true, Bool.not_false, true_and, and_true, reduceIte, startE, frz, frz1, wipeE, Option.some.injEq, Sl.sh.injEq, Sl.own.injEq, odw, odx, ody, setD, unB, oeu, oev, oew, oex, oey, oez, ofa, ofc, ofd, ofr, ofs, oft, ofu, ofw]
            refine spo_sides trivial (eq_sidesT hl hm ?_)
            try simp only [oaa, oab, oac, oad, oae, oag, oah, oai, oak, oam, oan, oap, oaq, oar, oas, oaw, oax, oay, obd, obe, obg, obk, obn, obp, obq, obr, obv, ocb, occ, ocd, ocg, ocj, ock, ocm, ocn, ocp, ocq, ocr, ocs, oct, ocu, ocv, ocw, ocx, ocz, oda, ode, odh, odk, odm, odq, odr, ods, odt, odu, odv, List.getElem?_cons_zero, List.getElem?_cons_succ, List.map_cons, List.map_nil, List.cons_append, List.nil_append, List.append_nil, List.length_cons, List.length_nil, List.set_cons_zero, List.set_cons_succ, List.replicate, Nat.sub_self, Nat.zero_add, Nat.reduceAdd, Nat.reduceSub, if_true, if_false, Bool.false_eq_true, Bool.not_true, Bool.not_false, true_and, and_true, reduceIte, startE, frz, frz1, wipeE, Option.some.injEq, Sl.sh.injEq, Sl.own.injEq, odw, odx, ody, setD, unB, oeu, oev, oew, oex, oey, oez, ofa, ofc, ofd, ofr, ofs, oft, ofu, ofw]
            refine hB2 _ ?_
            try simp only [oaa, oab, oac, oad, oae, oag, oah, oai, oak, oam, oan, oap, oaq, oar, oas, oaw, oax, oay, obd, obe, obg, obk, obn, obp, obq, obr, obv, ocb, occ, ocd, ocg, ocj, ock, ocm, ocn, ocp, ocq, ocr, ocs, oct, ocu, ocv, ocw, ocx, ocz, oda, ode, odh, odk, odm, odq, odr, ods, odt, odu, odv, List.getElem?_cons_zero, List.getElem?_cons_succ, List.map_cons, List.map_nil, List.cons_append, List.nil_append, List.append_nil, List.length_cons, List.length_nil, List.set_cons_zero, List.set_cons_succ, List.replicate, Nat.sub_self, Nat.zero_add, Nat.reduceAdd, Nat.reduceSub, if_true, if_false, Bool.false_eq_true, Bool.not_true, Bool.not_false, true_and, and_true, reduceIte, startE, frz, frz1, wipeE, Option.some.injEq, Sl.sh.injEq, Sl.own.injEq, odw, odx, ody, setD, unB, oeu, oev, oew, oex, oey, oez, ofa, ofc, ofd, ofr, ofs, oft, ofu, ofw]
            refine hK8 _ (seq_bar fun K9 hK9 => if_bar fun A3 B3 hA3 hB3 => ?_)
            have zl : l.length ≤ 10 := hl.len
            have zm : m.length ≤ 10 := hm.len
            have lo1 : ((l.length : Nat) : Int).natAbs.log2 < 1920 := log_ok (by omega) (by omega)
            have lo2 : ((m.length : Nat) : Int).natAbs.log2 < 1920 := log_ok (by omega) (by omega)
            have f1 := numS_eq (i := ((l.length : Nat) : Int)) (by omega)
            have f2 := numS_eq (i := ((m.length : Nat) : Int)) (by omega)
            have n1 := numS_len (i := ((l.length : Nat) : Int)) (by omega) (by omega)
            have n2 := numS_len (i := ((m.length : Nat) : Int)) (by omega) (by omega)
            have g1 : ("Sides of " : Str).length = 9 := rfl
            have g2 : (" and " : Str).length = 5 := rfl
            have g3 : (" kinds" : Str).length = 6 := rfl
            try simp only [↓oaa, ↓oab, ↓oac, ↓oad, ↓oae, ↓oag, ↓oah, ↓oai, ↓oak, ↓oam, ↓oan, ↓oap, ↓oaq, ↓oar, ↓oas, ↓oaw, ↓oax, ↓oay, ↓obd, ↓obe, ↓obg, ↓obk, ↓obn, ↓obp, ↓obq, ↓obr, ↓obv, ↓ocb, ↓occ, ↓ocd, ↓ocg, ↓ocj, ↓ock, ↓ocm, ↓ocn, ↓ocp, ↓ocq, ↓ocr, ↓ocs, ↓oct, ↓ocu, ↓ocv, ↓ocw, ↓ocx, ↓ocz, ↓oda, ↓ode, ↓odh, ↓odk, ↓odm, ↓odq, ↓odr, ↓ods, ↓odt, ↓odu, ↓odv, ↓List.getElem?_cons_zero, ↓List.getElem?_cons_succ, ↓List.map_cons, ↓List.map_nil, ↓List.cons_append, ↓List.nil_append, ↓List.append_nil, ↓List.length_cons, ↓List.length_nil, ↓List.set_cons_zero, ↓List.set_cons_succ, ↓List.replicate, ↓Nat.sub_self, ↓Nat.zero_add, ↓Nat.reduceAdd, ↓Nat.reduceSub, ↓if_true, ↓if_false, ↓Bool.false_eq_true, ↓Bool.not_true, ↓Bool.not_false, ↓true_and, ↓and_true, ↓reduceIte, ↓startE, ↓frz, ↓frz1, ↓wipeE, ↓Option.some.injEq, ↓Sl.sh.injEq, ↓Sl.own.injEq, ↓odw, ↓odx, ↓ody, ↓setD, ↓unB, ↓oeu, ↓oev, ↓oew, ↓oex, ↓oey, ↓oez, ↓ofa, ↓ofc, ↓ofd, ↓ofr, ↓ofs, ↓oft, ↓ofu, ↓ofw]
            refine spr_sides hl hm ?_
            try simp only [oaa, oab, oac, oad, oae, oag, oah, oai, oak, oam, oan, oap, oaq, oar, oas, oaw, oax, oay, obd, obe, obg, obk, obn, obp, obq, obr, obv, ocb, occ, ocd, ocg, ocj, ock, ocm, ocn, ocp, ocq, ocr, ocs, oct, ocu, ocv, ocw, ocx, ocz, oda, ode, odh, odk, odm, odq, odr, ods, odt, odu, odv, List.getElem?_cons_zero, List.getElem?_cons_succ, List.map_cons, List.map_nil, List.cons_append, List.nil_append, List.append_nil, List.length_cons, List.length_nil, List.set_cons_zero, List.set_cons_succ, List.replicate, Nat.sub_self, Nat.zero_add, Nat.reduceAdd, Nat.reduceSub, if_true, if_false, Bool.false_eq_true, Bool.not_true, Bool.not_false, true_and, and_true, reduceIte, startE, frz, frz1, wipeE, Option.some.injEq, Sl.sh.injEq, Sl.own.injEq, odw, odx, ody, setD, unB, oeu, oev, oew, oex, oey, oez, ofa, ofc, ofd, ofr, ofs, oft, ofu, ofw, kD, v_lent, List.length_map, fStr, lo1, lo2, f1, f2, fAdd, strLen_append, g1, g2, g3]
            have rs : repSd l m = ("Sides of " : Str) ++ numS (l.length : Nat) ++ (" and " : Str) ++ numS (m.length : Nat) ++ (" kinds" : Str) := by
              unfold repSd
              rw [f1, f2, show Str.empty ++ ("Sides of " : Str) = ("Sides of " : Str) by decide +kernel]
            have gok : PyData.strOk (repSd l m) = true := by
              rw [rs]
              exact gs_ok (gs_app (gs_app (gs_app (gs_app (gs_str _) (gs_num _)) (gs_str _)) (gs_num _)) (gs_str _))
            refine ⟨small_line (by omega), small_line (by omega), small_line (by omega), small_line (by omega), ?_⟩
            rw [← rs, v_nes gok gok]
            have eb : (!(repSd l m == repSd l m)) = false := by simp
            rw [eb]
            have k9 : K9 [.sh .ptr, .sh d, .sh (kD l), .sh (kD m), s4, .own (.lst [.lst [.str "told", .obj 1 [kD m, kD l]], .lst [.str "told", .obj 1 [kD m, kD l]]]), s6, .sh (.obj 1 [kD m, kD l]), .sh (.obj 1 [kD m, kD l])] := by
              refine hK9 _ (seq_bar fun K10 hK10 => if_bar fun A4 B4 hA4 hB4 => ?_)
              try simp only [oaa, oab, oac, oad, oae, oag, oah, oai, oak, oam, oan, oap, oaq, oar, oas, oaw, oax, oay, obd, obe, obg, obk, obn, obp, obq, obr, obv, ocb, occ, ocd, ocg, ocj, ock, ocm, ocn, ocp, ocq, ocr, ocs, oct, ocu, ocv, ocw, ocx, ocz, oda, ode, odh, odk, odm, odq, odr, ods, odt, odu, odv, List.getElem?_cons_zero, List.getElem?_cons_succ, List.map_cons, List.map_nil, List.cons_append, List.nil_append, List.append_nil, List.length_cons, List.length_nil, List.set_cons_zero, List.set_cons_succ, List.replicate, Nat.sub_self, Nat.zero_add, Nat.reduceAdd, Nat.reduceSub, if_true, if_false, Bool.false_eq_true, Bool.not_true, Bool.not_false, true_and, and_true, reduceIte, startE, frz, frz1, wipeE, Option.some.injEq, Sl.sh.injEq, Sl.own.injEq, odw, odx, ody, setD, unB, oeu, oev, oew, oex, oey, oez, ofa, ofc, ofd, ofr, ofs, oft, ofu, ofw, sp_Sides___init__, o_opO]
              refine ⟨_, _, rfl, plain_kD m, plain_kD l, fun _ _ => spo_sides rfl (eq_sides hl hm hm hl ?_), fun o e => (by rw [wrongD_good hm] at e; cases e), fun o _ e => (by rw [wrongD_good hl] at e; cases e)⟩
              have e1 : decide ((m, l) = (l, m)) = decide (l = m) := decide_eq_decide.mpr ⟨fun e => (Prod.mk.inj e).2, fun e => by rw [e]⟩
              rw [e1]
              try simp only [fEq, okEq_kD hl.ok, okEq_kD hm.ok, eqD_kD, true_and]
              refine ⟨⟨rfl, rfl⟩, ⟨rfl, rfl⟩, ?_⟩
              have e2 : eqD (.bl (decide (l = m))) (.bl (decide (l = m))) = true := by
                show (decide (l = m) == decide (l = m)) = true
                simp
              rw [e2]
              try simp only [oaa, oab, oac, oad, oae, oag, oah, oai, oak, oam, oan, oap, oaq, oar, oas, oaw, oax, oay, obd, obe, obg, obk, obn, obp, obq, obr, obv, ocb, occ, ocd, ocg, ocj, ock, ocm, ocn, ocp, ocq, ocr, ocs, oct, ocu, ocv, ocw, ocx, ocz, oda, ode, odh, odk, odm, odq, odr, ods, odt, odu, odv, List.getElem?_cons_zero, List.getElem?_cons_succ, List.map_cons, List.map_nil, List.cons_append, List.nil_append, List.append_nil, List.length_cons, List.length_nil, List.set_cons_zero, List.set_cons_succ, List.replicate, Nat.sub_self, Nat.zero_add, Nat.reduceAdd, Nat.reduceSub, if_true, if_false, Bool.false_eq_true, Bool.not_true, Bool.not_false, true_and, and_true, reduceIte, startE, frz, frz1, wipeE, Option.some.injEq, Sl.sh.injEq, Sl.own.injEq, odw, odx, ody, setD, unB, oeu, oev, oew, oex, oey, oez, ofa, ofc, ofd, ofr, ofs, oft, ofu, ofw, Bool.not_true]
              refine hB4 _ ?_
              try simp only [oaa, oab, oac, oad, oae, oag, oah, oai, oak, oam, oan, oap, oaq, oar, oas, oaw, oax, oay, obd, obe, obg, obk, obn, obp, obq, obr, obv, ocb, occ, ocd, ocg, ocj, ock, ocm, ocn, ocp, ocq, ocr, ocs, oct, ocu, ocv, ocw, ocx, ocz, oda, ode, odh, odk, odm, odq, odr, ods, odt, odu, odv, List.getElem?_cons_zero, List.getElem?_cons_succ, List.map_cons, List.map_nil, List.cons_append, List.nil_append, List.append_nil, List.length_cons, List.length_nil, List.set_cons_zero, List.set_cons_succ, List.replicate, Nat.sub_self, Nat.zero_add, Nat.reduceAdd, Nat.reduceSub, if_true, if_false, Bool.false_eq_true, Bool.not_true, Bool.not_false, true_and, and_true, reduceIte, startE, frz, frz1, wipeE, Option.some.injEq, Sl.sh.injEq, Sl.own.injEq, odw, odx, ody, setD, unB, oeu, oev, oew, oex, oey, oez, ofa, ofc, ofd, ofr, ofs, oft, ofu, ofw]
              refine hK10 _ ?_
              try simp only [oaa, oab, oac, oad, oae, oag, oah, oai, oak, oam, oan, oap, oaq, oar, oas, oaw, oax, oay, obd, obe, obg, obk, obn, obp, obq, obr, obv, ocb, occ, ocd, ocg, ocj, ock, ocm, ocn, ocp, ocq, ocr, ocs, oct, ocu, ocv, ocw, ocx, ocz, oda, ode, odh, odk, odm, odq, odr, ods, odt, odu, odv, List.getElem?_cons_zero, List.getElem?_cons_succ, List.map_cons, List.map_nil, List.cons_append, List.nil_append, List.append_nil, List.length_cons, List.length_nil, List.set_cons_zero, List.set_cons_succ, List.replicate, Nat.sub_self, Nat.zero_add, Nat.reduceAdd, Nat.reduceSub, if_true, if_false, Bool.false_eq_true, Bool.not_true, Bool.not_false, true_and, and_true, reduceIte, startE, frz, frz1, wipeE, Option.some.injEq, Sl.sh.injEq, Sl.own.injEq, odw, odx, ody, setD, unB, oeu, oev, oew, oex, oey, oez, ofa, ofc, ofd, ofr, ofs, oft, ofu, ofw]
              exact k6 _ _ _
            try simp only [oas]
            rw [if_neg (by decide)]
            refine hB3 _ ?_
            try simp only [oaa, oab, oac, oad, oae, oag, oah, oai, oak, oam, oan, oap, oaq, oar, oas, oaw, oax, oay, obd, obe, obg, obk, obn, obp, obq, obr, obv, ocb, occ, ocd, ocg, ocj, ock, ocm, ocn, ocp, ocq, ocr, ocs, oct, ocu, ocv, ocw, ocx, ocz, oda, ode, odh, odk, odm, odq, odr, ods, odt, odu, odv, List.getElem?_cons_zero, List.getElem?_cons_succ, List.map_cons, List.map_nil, List.cons_append, List.nil_append, List.append_nil, List.length_cons, List.length_nil, List.set_cons_zero, List.set_cons_succ, List.replicate, Nat.sub_self, Nat.zero_add, Nat.reduceAdd, Nat.reduceSub, if_true, if_false, Bool.false_eq_true, Bool.not_true, Bool.not_false, true_and, and_true, reduceIte, startE, frz, frz1, wipeE, Option.some.injEq, Sl.sh.injEq, Sl.own.injEq, odw, odx, ody, setD, unB, oeu, oev, oew, oex, oey, oez, ofa, ofc, ofd, ofr, ofs, oft, ofu, ofw]
            exact k9
        rcases h4 with rfl | rfl
        · try simp only [oaa, oab, oac, oad, oae, oag, oah, oai, oak, oam, oan, oap, oaq, oar, oas, oaw, oax, oay, obd, obe, obg, obk, obn, obp, obq, obr, obv, ocb, occ, ocd, ocg, ocj, ock, ocm, ocn, ocp, ocq, ocr, ocs, oct, ocu, ocv, ocw, ocx, ocz, oda, ode, odh, odk, odm, odq, odr, ods, odt, odu, odv, List.getElem?_cons_zero, List.getElem?_cons_succ, List.map_cons, List.map_nil, List.cons_append, List.nil_append, List.append_nil, List.length_cons, List.length_nil, List.set_cons_zero, List.set_cons_succ, List.replicate, Nat.sub_self, Nat.zero_add, Nat.reduceAdd, Nat.reduceSub, if_true, if_false, Bool.false_eq_true, Bool.not_true, Bool.not_false, true_and, and_true, reduceIte, startE, frz, frz1, wipeE, Option.some.injEq, Sl.sh.injEq, Sl.own.injEq, odw, odx, ody, setD, unB, oeu, oev, oew, oex, oey, oez, ofa, ofc, ofd, ofr, ofs, oft, ofu, ofw, v_ixl (at1 _), v_eqs (wrS_ok _) so]
          exact go True
        · try simp only [oaa, oab, oac, oad, oae, oag, oah, oai, oak, oam, oan, oap, oaq, oar, oas, oaw, oax, oay, obd, obe, obg, obk, obn, obp, obq, obr, obv, ocb, occ, ocd, ocg, ocj, ock, ocm, ocn, ocp, ocq, ocr, ocs, oct, ocu, ocv, ocw, ocx, ocz, oda, ode, odh, odk, odm, odq, odr, ods, odt, odu, odv, List.getElem?_cons_zero, List.getElem?_cons_succ, List.map_cons, List.map_nil, List.cons_append, List.nil_append, List.append_nil, List.length_cons, List.length_nil, List.set_cons_zero, List.set_cons_succ, List.replicate, Nat.sub_self, Nat.zero_add, Nat.reduceAdd, Nat.reduceSub, if_true, if_false, Bool.false_eq_true, Bool.not_true, Bool.not_false, true_and, and_true, reduceIte, startE, frz, frz1, wipeE, Option.some.injEq, Sl.sh.injEq, Sl.own.injEq, odw, odx, ody, setD, unB, oeu, oev, oew, oex, oey, oez, ofa, ofc, ofd, ofr, ofs, oft, ofu, ofw, v_ixl (at1 _), v_eqs (wrS_ok _) so]
          exact go True
      cases ed : duS (wrongD a) (wrongD c) with
      | none =>
        try simp only [oaa, oab, oac, oad, oae, oag, oah, oai, oak, oam, oan, oap, oaq, oar, oas, oaw, oax, oay, obd, obe, obg, obk, obn, obp, obq, obr, obv, ocb, occ, ocd, ocg, ocj, ock, ocm, ocn, ocp, ocq, ocr, ocs, oct, ocu, ocv, ocw, ocx, ocz, oda, ode, odh, odk, odm, odq, odr, ods, odt, odu, odv, List.getElem?_cons_zero, List.getElem?_cons_succ, List.map_cons, List.map_nil, List.cons_append, List.nil_append, List.append_nil, List.length_cons, List.length_nil, List.set_cons_zero, List.set_cons_succ, List.replicate, Nat.sub_self, Nat.zero_add, Nat.reduceAdd, Nat.reduceSub, if_true, if_false, Bool.false_eq_true, Bool.not_true, Bool.not_false, true_and, and_true, reduceIte, startE, frz, frz1, wipeE, Option.some.injEq, Sl.sh.injEq, Sl.own.injEq, odw, odx, ody, setD, unB, oeu, oev, oew, oex, oey, oez, ofa, ofc, ofd, ofr, ofs, oft, ofu, ofw, v_ixl (at1 _), v_nes (wrS_ok none) so, e0]
        refine hB _ ?_
        try simp only [oaa, oab, oac, oad, oae, oag, oah, oai, oak, oam, oan, oap, oaq, oar, oas, oaw, oax, oay, obd, obe, obg, obk, obn, obp, obq, obr, obv, ocb, occ, ocd, ocg, ocj, ock, ocm, ocn, ocp, ocq, ocr, ocs, oct, ocu, ocv, ocw, ocx, ocz, oda, ode, odh, odk, odm, odq, odr, ods, odt, odu, odv, List.getElem?_cons_zero, List.getElem?_cons_succ, List.map_cons, List.map_nil, List.cons_append, List.nil_append, List.append_nil, List.length_cons, List.length_nil, List.set_cons_zero, List.set_cons_succ, List.replicate, Nat.sub_self, Nat.zero_add, Nat.reduceAdd, Nat.reduceSub, if_true, if_false, Bool.false_eq_true, Bool.not_true, Bool.not_false, true_and, and_true, reduceIte, startE, frz, frz1, wipeE, Option.some.injEq, Sl.sh.injEq, Sl.own.injEq, odw, odx, ody, setD, unB, oeu, oev, oew, oex, oey, oez, ofa, ofc, ofd, ofr, ofs, oft, ofu, ofw]
        exact k5 _ (.inl (by rw [ed]))
      | some o =>
        have ne := wrS_ne (lo o ed)
        have eO : outS a c = .lst [.str (nmS (wrongD a)), .str (wrS (some o))] := by unfold outS; rw [ed]
        have tm := four_tame (nmS_ok (wrongD a)) (wrS_ok (some o)) (nmS_ok (wrongD a)) (wrS_ok (some o))
        try simp only [oaa, oab, oac, oad, oae, oag, oah, oai, oak, oam, oan, oap, oaq, oar, oas, oaw, oax, oay, obd, obe, obg, obk, obn, obp, obq, obr, obv, ocb, occ, ocd, ocg, ocj, ock, ocm, ocn, ocp, ocq, ocr, ocs, oct, ocu, ocv, ocw, ocx, ocz, oda, ode, odh, odk, odm, odq, odr, ods, odt, odu, odv, List.getElem?_cons_zero, List.getElem?_cons_succ, List.map_cons, List.map_nil, List.cons_append, List.nil_append, List.append_nil, List.length_cons, List.length_nil, List.set_cons_zero, List.set_cons_succ, List.replicate, Nat.sub_self, Nat.zero_add, Nat.reduceAdd, Nat.reduceSub, if_true, if_false, Bool.false_eq_true, Bool.not_true, Bool.not_false, true_and, and_true, reduceIte, startE, frz, frz1, wipeE, Option.some.injEq, Sl.sh.injEq, Sl.own.injEq, odw, odx, ody, setD, unB, oeu, oev, oew, oex, oey, oez, ofa, ofc, ofd, ofr, ofs, oft, ofu, ofw, v_ixl (at1 _), v_nes (wrS_ok _) so, ne]
        rw [eO] at k5 ⊢
        refine ⟨z2, ?_⟩
        rw [v_neself tm (show dep (.lst [.lst [.str "", .str ""], .lst [.str "", .str ""]]) ≤ 60 from by decide)]
        try simp only [oaa, oab, oac, oad, oae, oag, oah, oai, oak, oam, oan, oap, oaq, oar, oas, oaw, oax, oay, obd, obe, obg, obk, obn, obp, obq, obr, obv, ocb, occ, ocd, ocg, ocj, ock, ocm, ocn, ocp, ocq, ocr, ocs, oct, ocu, ocv, ocw, ocx, ocz, oda, ode, odh, odk, odm, odq, odr, ods, odt, odu, odv, List.getElem?_cons_zero, List.getElem?_cons_succ, List.map_cons, List.map_nil, List.cons_append, List.nil_append, List.append_nil, List.length_cons, List.length_nil, List.set_cons_zero, List.set_cons_succ, List.replicate, Nat.sub_self, Nat.zero_add, Nat.reduceAdd, Nat.reduceSub, if_true, if_false, Bool.false_eq_true, Bool.not_true, Bool.not_false, true_and, and_true, reduceIte, startE, frz, frz1, wipeE, Option.some.injEq, Sl.sh.injEq, Sl.own.injEq, odw, odx, ody, setD, unB, oeu, oev, oew, oex, oey, oez, ofa, ofc, ofd, ofr, ofs, oft, ofu, ofw]
        refine hB _ ?_
        try simp only [oaa, oab, oac, oad, oae, oag, oah, oai, oak, oam, oan, oap, oaq, oar, oas, oaw, oax, oay, obd, obe, obg, obk, obn, obp, obq, obr, obv, ocb, occ, ocd, ocg, ocj, ock, ocm, ocn, ocp, ocq, ocr, ocs, oct, ocu, ocv, ocw, ocx, ocz, oda, ode, odh, odk, odm, odq, odr, ods, odt, odu, odv, List.getElem?_cons_zero, List.getElem?_cons_succ, List.map_cons, List.map_nil, List.cons_append, List.nil_append, List.append_nil, List.length_cons, List.length_nil, List.set_cons_zero, List.set_cons_succ, List.replicate, Nat.sub_self, Nat.zero_add, Nat.reduceAdd, Nat.reduceSub, if_true, if_false, Bool.false_eq_true, Bool.not_true, Bool.not_false, true_and, and_true, reduceIte, startE, frz, frz1, wipeE, Option.some.injEq, Sl.sh.injEq, Sl.own.injEq, odw, odx, ody, setD, unB, oeu, oev, oew, oex, oey, oez, ofa, ofc, ofd, ofr, ofs, oft, ofu, ofw]
        exact k5 _ (.inr (by rw [ed]))
    try simp only [↓oaa, ↓oab, ↓oac, ↓oad, ↓oae, ↓oag, ↓oah, ↓oai, ↓oak, ↓oam, ↓oan, ↓oap, ↓oaq, ↓oar, ↓oas, ↓oaw, ↓oax, ↓oay, ↓obd, ↓obe, ↓obg, ↓obk, ↓obn, ↓obp, ↓obq, ↓obr, ↓obv, ↓ocb, ↓occ, ↓ocd, ↓ocg, ↓ocj, ↓ock, ↓ocm, ↓ocn, ↓ocp, ↓ocq, ↓ocr, ↓ocs, ↓oct, ↓ocu, ↓ocv, ↓ocw, ↓ocx, ↓ocz, ↓oda, ↓ode, ↓odh, ↓odk, ↓odm, ↓odq, ↓odr, ↓ods, ↓odt, ↓odu, ↓odv, ↓List.getElem?_cons_zero, ↓List.getElem?_cons_succ, ↓List.map_cons, ↓List.map_nil, ↓List.cons_append, ↓List.nil_append, ↓List.append_nil, ↓List.length_cons, ↓List.length_nil, ↓List.set_cons_zero, ↓List.set_cons_succ, ↓List.replicate, ↓Nat.sub_self, ↓Nat.zero_add, ↓Nat.reduceAdd, ↓Nat.reduceSub, ↓if_true, ↓if_false, ↓Bool.false_eq_true, ↓Bool.not_true, ↓Bool.not_false, ↓true_and, ↓and_true, ↓reduceIte, ↓startE, ↓frz, ↓frz1, ↓wipeE, ↓Option.some.injEq, ↓Sl.sh.injEq, ↓Sl.own.injEq, ↓odw, ↓odx, ↓ody, ↓setD, ↓unB, ↓oeu, ↓oev, ↓oew, ↓oex, ↓oey, ↓oez, ↓ofa, ↓ofc, ↓ofd, ↓ofr, ↓ofs, ↓oft, ↓ofu, ↓ofw, ↓sp__law_wrong]
    refine ⟨a, rfl, ha.1, la, ?_⟩
    try simp only [↓oaa, ↓oab, ↓oac, ↓oad, ↓oae, ↓oag, ↓oah, ↓oai, ↓oak, ↓oam, ↓oan, ↓oap, ↓oaq, ↓oar, ↓oas, ↓oaw, ↓oax, ↓oay, ↓obd, ↓obe, ↓obg, ↓obk, ↓obn, ↓obp, ↓obq, ↓obr, ↓obv, ↓ocb, ↓occ, ↓ocd, ↓ocg, ↓ocj, ↓ock, ↓ocm, ↓ocn, ↓ocp, ↓ocq, ↓ocr, ↓ocs, ↓oct, ↓ocu, ↓ocv, ↓ocw, ↓ocx, ↓ocz, ↓oda, ↓ode, ↓odh, ↓odk, ↓odm, ↓odq, ↓odr, ↓ods, ↓odt, ↓odu, ↓odv, ↓List.getElem?_cons_zero, ↓List.getElem?_cons_succ, ↓List.map_cons, ↓List.map_nil, ↓List.cons_append, ↓List.nil_append, ↓List.append_nil, ↓List.length_cons, ↓List.length_nil, ↓List.set_cons_zero, ↓List.set_cons_succ, ↓List.replicate, ↓Nat.sub_self, ↓Nat.zero_add, ↓Nat.reduceAdd, ↓Nat.reduceSub, ↓if_true, ↓if_false, ↓Bool.false_eq_true, ↓Bool.not_true, ↓Bool.not_false, ↓true_and, ↓and_true, ↓reduceIte, ↓startE, ↓frz, ↓frz1, ↓wipeE, ↓Option.some.injEq, ↓Sl.sh.injEq, ↓Sl.own.injEq, ↓odw, ↓odx, ↓ody, ↓setD, ↓unB, ↓oeu, ↓oev, ↓oew, ↓oex, ↓oey, ↓oez, ↓ofa, ↓ofc, ↓ofd, ↓ofr, ↓ofs, ↓oft, ↓ofu, ↓ofw, ↓v_nes (wrS_ok _) so]
    cases ea : wrongD a with
    | some oa =>
      rw [ea] at k2 lo
      rw [wrS_ne (lo oa rfl)]
      try simp only [↓oaa, ↓oab, ↓oac, ↓oad, ↓oae, ↓oag, ↓oah, ↓oai, ↓oak, ↓oam, ↓oan, ↓oap, ↓oaq, ↓oar, ↓oas, ↓oaw, ↓oax, ↓oay, ↓obd, ↓obe, ↓obg, ↓obk, ↓obn, ↓obp, ↓obq, ↓obr, ↓obv, ↓ocb, ↓occ, ↓ocd, ↓ocg, ↓ocj, ↓ock, ↓ocm, ↓ocn, ↓ocp, ↓ocq, ↓ocr, ↓ocs, ↓oct, ↓ocu, ↓ocv, ↓ocw, ↓ocx, ↓ocz, ↓oda, ↓ode, ↓odh, ↓odk, ↓odm, ↓odq, ↓odr, ↓ods, ↓odt, ↓odu, ↓odv, ↓List.getElem?_cons_zero, ↓List.getElem?_cons_succ, ↓List.map_cons, ↓List.map_nil, ↓List.cons_append, ↓List.nil_append, ↓List.append_nil, ↓List.length_cons, ↓List.length_nil, ↓List.set_cons_zero, ↓List.set_cons_succ, ↓List.replicate, ↓Nat.sub_self, ↓Nat.zero_add, ↓Nat.reduceAdd, ↓Nat.reduceSub, ↓if_true, ↓if_false, ↓Bool.false_eq_true, ↓Bool.not_true, ↓Bool.not_false, ↓true_and, ↓and_true, ↓reduceIte, ↓startE, ↓frz, ↓frz1, ↓wipeE, ↓Option.some.injEq, ↓Sl.sh.injEq, ↓Sl.own.injEq, ↓odw, ↓odx, ↓ody, ↓setD, ↓unB, ↓oeu, ↓oev, ↓oew, ↓oex, ↓oey, ↓oez, ↓ofa, ↓ofc, ↓ofd, ↓ofr, ↓ofs, ↓oft, ↓ofu, ↓ofw, ↓sp__law_wrong]
      refine ⟨a, rfl, ha.1, la, ?_⟩
      rw [ea]
      try simp only [↓oaa, ↓oab, ↓oac, ↓oad, ↓oae, ↓oag, ↓oah, ↓oai, ↓oak, ↓oam, ↓oan, ↓oap, ↓oaq, ↓oar, ↓oas, ↓oaw, ↓oax, ↓oay, ↓obd, ↓obe, ↓obg, ↓obk, ↓obn, ↓obp, ↓obq, ↓obr, ↓obv, ↓ocb, ↓occ, ↓ocd, ↓ocg, ↓ocj, ↓ock, ↓ocm, ↓ocn, ↓ocp, ↓ocq, ↓ocr, ↓ocs, ↓oct, ↓ocu, ↓ocv, ↓ocw, ↓ocx, ↓ocz, ↓oda, ↓ode, ↓odh, ↓odk, ↓odm, ↓odq, ↓odr, ↓ods, ↓odt, ↓odu, ↓odv, ↓List.getElem?_cons_zero, ↓List.getElem?_cons_succ, ↓List.map_cons, ↓List.map_nil, ↓List.cons_append, ↓List.nil_append, ↓List.append_nil, ↓List.length_cons, ↓List.length_nil, ↓List.set_cons_zero, ↓List.set_cons_succ, ↓List.replicate, ↓Nat.sub_self, ↓Nat.zero_add, ↓Nat.reduceAdd, ↓Nat.reduceSub, ↓if_true, ↓if_false, ↓Bool.false_eq_true, ↓Bool.not_true, ↓Bool.not_false, ↓true_and, ↓and_true, ↓reduceIte, ↓startE, ↓frz, ↓frz1, ↓wipeE, ↓Option.some.injEq, ↓Sl.sh.injEq, ↓Sl.own.injEq, ↓odw, ↓odx, ↓ody, ↓setD, ↓unB, ↓oeu, ↓oev, ↓oew, ↓oex, ↓oey, ↓oez, ↓ofa, ↓ofc, ↓ofd, ↓ofr, ↓ofs, ↓oft, ↓ofu, ↓ofw, ↓z2]
      exact k2
    | none =>
      rw [ea] at k2
      have e0 : (wrS none == ("" : Str)) = true := by decide +kernel
      rw [e0]
      try simp only [↓oaa, ↓oab, ↓oac, ↓oad, ↓oae, ↓oag, ↓oah, ↓oai, ↓oak, ↓oam, ↓oan, ↓oap, ↓oaq, ↓oar, ↓oas, ↓oaw, ↓oax, ↓oay, ↓obd, ↓obe, ↓obg, ↓obk, ↓obn, ↓obp, ↓obq, ↓obr, ↓obv, ↓ocb, ↓occ, ↓ocd, ↓ocg, ↓ocj, ↓ock, ↓ocm, ↓ocn, ↓ocp, ↓ocq, ↓ocr, ↓ocs, ↓oct, ↓ocu, ↓ocv, ↓ocw, ↓ocx, ↓ocz, ↓oda, ↓ode, ↓odh, ↓odk, ↓odm, ↓odq, ↓odr, ↓ods, ↓odt, ↓odu, ↓odv, ↓List.getElem?_cons_zero, ↓List.getElem?_cons_succ, ↓List.map_cons, ↓List.map_nil, ↓List.cons_append, ↓List.nil_append, ↓List.append_nil, ↓List.length_cons, ↓List.length_nil, ↓List.set_cons_zero, ↓List.set_cons_succ, ↓List.replicate, ↓Nat.sub_self, ↓Nat.zero_add, ↓Nat.reduceAdd, ↓Nat.reduceSub, ↓if_true, ↓if_false, ↓Bool.false_eq_true, ↓Bool.not_true, ↓Bool.not_false, ↓true_and, ↓and_true, ↓reduceIte, ↓startE, ↓frz, ↓frz1, ↓wipeE, ↓Option.some.injEq, ↓Sl.sh.injEq, ↓Sl.own.injEq, ↓odw, ↓odx, ↓ody, ↓setD, ↓unB, ↓oeu, ↓oev, ↓oew, ↓oex, ↓oey, ↓oez, ↓ofa, ↓ofc, ↓ofd, ↓ofr, ↓ofs, ↓oft, ↓ofu, ↓ofw, ↓sp__law_wrong]
      refine ⟨c, rfl, hc.1, lc, ?_⟩
      try simp only [↓oaa, ↓oab, ↓oac, ↓oad, ↓oae, ↓oag, ↓oah, ↓oai, ↓oak, ↓oam, ↓oan, ↓oap, ↓oaq, ↓oar, ↓oas, ↓oaw, ↓oax, ↓oay, ↓obd, ↓obe, ↓obg, ↓obk, ↓obn, ↓obp, ↓obq, ↓obr, ↓obv, ↓ocb, ↓occ, ↓ocd, ↓ocg, ↓ocj, ↓ock, ↓ocm, ↓ocn, ↓ocp, ↓ocq, ↓ocr, ↓ocs, ↓oct, ↓ocu, ↓ocv, ↓ocw, ↓ocx, ↓ocz, ↓oda, ↓ode, ↓odh, ↓odk, ↓odm, ↓odq, ↓odr, ↓ods, ↓odt, ↓odu, ↓odv, ↓List.getElem?_cons_zero, ↓List.getElem?_cons_succ, ↓List.map_cons, ↓List.map_nil, ↓List.cons_append, ↓List.nil_append, ↓List.append_nil, ↓List.length_cons, ↓List.length_nil, ↓List.set_cons_zero, ↓List.set_cons_succ, ↓List.replicate, ↓Nat.sub_self, ↓Nat.zero_add, ↓Nat.reduceAdd, ↓Nat.reduceSub, ↓if_true, ↓if_false, ↓Bool.false_eq_true, ↓Bool.not_true, ↓Bool.not_false, ↓true_and, ↓and_true, ↓reduceIte, ↓startE, ↓frz, ↓frz1, ↓wipeE, ↓Option.some.injEq, ↓Sl.sh.injEq, ↓Sl.own.injEq, ↓odw, ↓odx, ↓ody, ↓setD, ↓unB, ↓oeu, ↓oev, ↓oew, ↓oex, ↓oey, ↓oez, ↓ofa, ↓ofc, ↓ofd, ↓ofr, ↓ofs, ↓oft, ↓ofu, ↓ofw, ↓z2]
      exact k2
  · obtain ⟨s1, s2, s3, s4, s5, s6, s7, s8, rfl⟩ := h
    refine hK0 _ ?_
    try simp only [oaa, oab, oac, oad, oae, oag, oah, oai, oak, oam, oan, oap, oaq, oar, oas, oaw, oax, oay, obd, obe, obg, obk, obn, obp, obq, obr, obv, ocb, occ, ocd, ocg, ocj, ock, ocm, ocn, ocp, ocq, ocr, ocs, oct, ocu, ocv, ocw, ocx, ocz, oda, ode, odh, odk, odm, odq, odr, ods, odt, odu, odv, List.getElem?_cons_zero, List.getElem?_cons_succ, List.map_cons, List.map_nil, List.cons_append, List.nil_append, List.append_nil, List.length_cons, List.length_nil, List.set_cons_zero, List.set_cons_succ, List.replicate, Nat.sub_self, Nat.zero_add, Nat.reduceAdd, Nat.reduceSub, if_true, if_false, Bool.false_eq_true, Bool.not_true, Bool.not_false, true_and, and_true, reduceIte, startE, frz, frz1, wipeE, Option.some.injEq, Sl.sh.injEq, Sl.own.injEq, odw, odx, ody, setD, unB, oeu, oev, oew, oex, oey, oez, ofa, ofc, ofd, ofr, ofs, oft, ofu, ofw]
    exact q

def sp__law_well : Sps := fun ds Qd _ => ∃ (ns : List Int) (t : Int), ds = [.scr ns, .int t] ∧ 0 ≤ t ∧ t < 1000 ∧ ns.length ≤ 63 ∧ ∀ a c : Int, 0 ≤ a → a < 2147483648 → 0 ≤ c → Qd (.lst [.int a, .int 0, .int c]) true
def r__law_well (T : Tx) : RS :=
  (sSeq (sSet 2 (dOp fAdd (dC (.int 71993)) (dOp fMul (dC (.int 683)) (dVar 1)))) (sSeq (sFor (iAny (dOp fAdd (dSlice fSlice (dVar 0) oNo (oSo (dC (.int 4)))) (dSlice fSlice (dVar 0) (oSo (dVar 1)) (oSo (dOp fAdd (dVar 1) (dC (.int 1))))))) (gN 3) (sSeq (sSet 2 (dOp fMod (dCall fInt (dConsB (dOp fAdd (dOp fAdd (dOp fMul (dVar 2) (dC (.int 39019))) (dVar 3)) (dC (.int 19))) dNil)) (dC (.int 2147483579)))) sNext)) (sSeq (sSet 4 (dIf (dTest (dOp fLt (dVar 1) (dCall fLen (dConsB (dVar 0) dNil)))) (dOp fIxA (dVar 0) (dVar 1)) (dC (.int 0)))) (sSeq (sRet (dLst (dCons (dVar 2) (dCons (dC (.int 0)) (dCons (dIf (dTest (dOp fGe (dCall fAbs (dConsB (dVar 4) dNil)) (dOp fPow (dC (.int 10)) (dC (.int 18))))) (dCall fAbs (dConsB (dVar 4) dNil)) (dC (.int 0))) dNil))))) sNext))))
theorem pure__law_well (T : Tx) : ∀ ds Qd xd, ds.length = 2 → sp__law_well ds Qd xd → r__law_well T (kdOf Qd xd) (startE (["script", "spot", "state", "cell", "own"] : List Str) ds) := by
  rintro _ Qd xd _ ⟨ns, t, rfl, h0, ht, hn, q⟩
  have z3 : (3 : Nat) ≤ sizeLine := by decide
  have m1 : ∀ i, IntMulOk 683 i := fun i => IntMulOk.of_left (by decide)
  have m2 : ∀ i, IntMulOk i 39019 := fun i => IntMulOk.of_right (by decide)
  have p1 : (0 : Int) < 2147483579 := by decide
  unfold r__law_well
  refine seq_bar fun K1 hK1 => ?_
  try simp only [oaa, oab, oac, oad, oae, oag, oah, oai, oak, oam, oap, oaq, oar, oas, oaw, obg, obn, obq, obr, obs, obt, obu, obv, occ, ocd, ocg, ock, ocn, ocp, ocq, ocr, ocs, oct, ocu, ocv, ocw, odb, odq, odr, ods, odt, odu, odv, List.getElem?_cons_zero, List.getElem?_cons_succ, List.map_cons, List.map_nil, List.cons_append, List.nil_append, List.append_nil, List.length_cons, List.length_nil, List.set_cons_zero, List.set_cons_succ, List.replicate, Nat.sub_self, Nat.zero_add, Nat.reduceAdd, Nat.reduceSub, if_true, if_false, Bool.false_eq_true, Bool.not_true, Bool.not_false, true_and, and_true, reduceIte, startE, Option.some.injEq, Sl.sh.injEq, Sl.own.injEq, oey, oez, ofa, ofs, oft, ofu, v_mul (m1 _), v_addi]
  refine hK1 _ (seq_bar fun K2 hK2 => ?_)
  have hz : (cutD (ns.map D.int) none (some 4)).length + (cutD (ns.map D.int) (some t) (some (t + 1))).length ≤ sizeLine := small_line (by
    have h1 : ∀ lo hi, (cutD (ns.map D.int) lo hi).length ≤ ns.length := fun lo hi => by
      unfold cutD
      rw [List.length_take, List.length_drop, List.length_map]; omega
    have := h1 none (some 4)
    have := h1 (some t) (some (t + 1))
    omega)
  try simp only [oaa, oab, oac, oad, oae, oag, oah, oai, oak, oam, oap, oaq, oar, oas, oaw, obg, obn, obq, obr, obs, obt, obu, obv, occ, ocd, ocg, ock, ocn, ocp, ocq, ocr, ocs, oct, ocu, ocv, ocw, odb, odq, odr, ods, odt, odu, odv, List.getElem?_cons_zero, List.getElem?_cons_succ, List.map_cons, List.map_nil, List.cons_append, List.nil_append, List.append_nil, List.length_cons, List.length_nil, List.set_cons_zero, List.set_cons_succ, List.replicate, Nat.sub_self, Nat.zero_add, Nat.reduceAdd, Nat.reduceSub, if_true, if_false, Bool.false_eq_true, Bool.not_true, Bool.not_false, true_and, and_true, reduceIte, startE, Option.some.injEq, Sl.sh.injEq, Sl.own.injEq, oey, oez, ofa, ofs, oft, ofu, v_slices, v_addi, fAdd, hz]
  refine loop_inv (fun i ρ => ∃ st s3, ρ = [.sh (.scr ns), .sh (.int t), .sh (.int st), s3, .no] ∧ 0 ≤ st ∧ st < 2147483648) (n := 0) ⟨_, .no, rfl, by omega, by omega⟩ (fun d hd i ρ K hi h next => ?_) (fun ρ h => ?_)
  · obtain ⟨st, s3, rfl, _⟩ := h
    obtain ⟨z, rfl⟩ : ∃ z, d = .int z := by
      rcases List.mem_append.mp hd with hd | hd
      · obtain ⟨z, _, rfl⟩ := List.mem_map.mp (cut_mem hd)
        exact ⟨z, rfl⟩
      · obtain ⟨z, _, rfl⟩ := List.mem_map.mp (cut_mem hd)
        exact ⟨z, rfl⟩
    try simp only [oaa, oab, oac, oad, oae, oag, oah, oai, oak, oam, oap, oaq, oar, oas, oaw, obg, obn, obq, obr, obs, obt, obu, obv, occ, ocd, ocg, ock, ocn, ocp, ocq, ocr, ocs, oct, ocu, ocv, ocw, odb, odq, odr, ods, odt, odu, odv, List.getElem?_cons_zero, List.getElem?_cons_succ, List.map_cons, List.map_nil, List.cons_append, List.nil_append, List.append_nil, List.length_cons, List.length_nil, List.set_cons_zero, List.set_cons_succ, List.replicate, Nat.sub_self, Nat.zero_add, Nat.reduceAdd, Nat.reduceSub, if_true, if_false, Bool.false_eq_true, Bool.not_true, Bool.not_false, true_and, and_true, reduceIte, startE, Option.some.injEq, Sl.sh.injEq, Sl.own.injEq, oey, oez, ofa, ofs, oft, ofu, Nat.reduceLT, Nat.lt_add_one, v_mul (m2 _), v_addi, v_inti, v_modi p1]
    exact next _ ⟨_, _, rfl, Int.emod_nonneg _ (by decide), Int.lt_trans (Int.emod_lt_of_pos _ p1) (by decide)⟩
  · obtain ⟨st, s3, rfl, hst⟩ := h
    refine hK2 _ (seq_bar fun K3 hK3 => ?_)
    have fin : ∀ own : Int, K3 [.sh (.scr ns), .sh (.int t), .sh (.int st), s3, .sh (.int own)] := fun own => by
      refine hK3 _ ?_
      try simp only [oaa, oab, oac, oad, oae, oag, oah, oai, oak, oam, oap, oaq, oar, oas, oaw, obg, obn, obq, obr, obs, obt, obu, obv, occ, ocd, ocg, ock, ocn, ocp, ocq, ocr, ocs, oct, ocu, ocv, ocw, odb, odq, odr, ods, odt, odu, odv, List.getElem?_cons_zero, List.getElem?_cons_succ, List.map_cons, List.map_nil, List.cons_append, List.nil_append, List.append_nil, List.length_cons, List.length_nil, List.set_cons_zero, List.set_cons_succ, List.replicate, Nat.sub_self, Nat.zero_add, Nat.reduceAdd, Nat.reduceSub, if_true, if_false, Bool.false_eq_true, Bool.not_true, Bool.not_false, true_and, and_true, reduceIte, startE, Option.some.injEq, Sl.sh.injEq, Sl.own.injEq, oey, oez, ofa, ofs, oft, ofu, fAbs, v_ord, v_p18]
      have ha : 0 ≤ (if own < 0 then -own else own) := by split <;> omega
      generalize (if own < 0 then -own else own) = a at ha
      by_cases c1 : (10 : Int) ^ 18 ≤ a
      · try simp only [oaa, oab, oac, oad, oae, oag, oah, oai, oak, oam, oap, oaq, oar, oas, oaw, obg, obn, obq, obr, obs, obt, obu, obv, occ, ocd, ocg, ock, ocn, ocp, ocq, ocr, ocs, oct, ocu, ocv, ocw, odb, odq, odr, ods, odt, odu, odv, List.getElem?_cons_zero, List.getElem?_cons_succ, List.map_cons, List.map_nil, List.cons_append, List.nil_append, List.append_nil, List.length_cons, List.length_nil, List.set_cons_zero, List.set_cons_succ, List.replicate, Nat.sub_self, Nat.zero_add, Nat.reduceAdd, Nat.reduceSub, if_true, if_false, Bool.false_eq_true, Bool.not_true, Bool.not_false, true_and, and_true, reduceIte, startE, Option.some.injEq, Sl.sh.injEq, Sl.own.injEq, oey, oez, ofa, ofs, oft, ofu, c1, decide_true, z3]
        exact q _ _ hst.1 hst.2 ha
      · try simp only [oaa, oab, oac, oad, oae, oag, oah, oai, oak, oam, oap, oaq, oar, oas, oaw, obg, obn, obq, obr, obs, obt, obu, obv, occ, ocd, ocg, ock, ocn, ocp, ocq, ocr, ocs, oct, ocu, ocv, ocw, odb, odq, odr, ods, odt, odu, odv, List.getElem?_cons_zero, List.getElem?_cons_succ, List.map_cons, List.map_nil, List.cons_append, List.nil_append, List.append_nil, List.length_cons, List.length_nil, List.set_cons_zero, List.set_cons_succ, List.replicate, Nat.sub_self, Nat.zero_add, Nat.reduceAdd, Nat.reduceSub, if_true, if_false, Bool.false_eq_true, Bool.not_true, Bool.not_false, true_and, and_true, reduceIte, startE, Option.some.injEq, Sl.sh.injEq, Sl.own.injEq, oey, oez, ofa, ofs, oft, ofu, c1, decide_false, z3]
        exact q _ _ hst.1 hst.2 (by omega)
    by_cases h : t < (ns.length : Int)
    · obtain ⟨own, hat⟩ : ∃ own, atI ns t = some own := by
        obtain ⟨j, rfl⟩ := Int.eq_ofNat_of_zero_le h0
        have hj : j < ns.length := by omega
        exact ⟨ns[j], by rw [atI_get]; exact List.getElem?_eq_getElem hj⟩
      try simp only [oaa, oab, oac, oad, oae, oag, oah, oai, oak, oam, oap, oaq, oar, oas, oaw, obg, obn, obq, obr, obs, obt, obu, obv, occ, ocd, ocg, ock, ocn, ocp, ocq, ocr, ocs, oct, ocu, ocv, ocw, odb, odq, odr, ods, odt, odu, odv, List.getElem?_cons_zero, List.getElem?_cons_succ, List.map_cons, List.map_nil, List.cons_append, List.nil_append, List.append_nil, List.length_cons, List.length_nil, List.set_cons_zero, List.set_cons_succ, List.replicate, Nat.sub_self, Nat.zero_add, Nat.reduceAdd, Nat.reduceSub, if_true, if_false, Bool.false_eq_true, Bool.not_true, Bool.not_false, true_and, and_true, reduceIte, startE, Option.some.injEq, Sl.sh.injEq, Sl.own.injEq, oey, oez, ofa, ofs, oft, ofu, v_ord, v_lensc, h, decide_true, v_ixs hat]
      exact fin _
    · try simp only [oaa, oab, oac, oad, oae, oag, oah, oai, oak, oam, oap, oaq, oar, oas, oaw, obg, obn, obq, obr, obs, obt, obu, obv, occ, ocd, ocg, ock, ocn, ocp, ocq, ocr, ocs, oct, ocu, ocv, ocw, odb, odq, odr, ods, odt, odu, odv, List.getElem?_cons_zero, List.getElem?_cons_succ, List.map_cons, List.map_nil, List.cons_append, List.nil_append, List.append_nil, List.length_cons, List.length_nil, List.set_cons_zero, List.set_cons_succ, List.replicate, Nat.sub_self, Nat.zero_add, Nat.reduceAdd, Nat.reduceSub, if_true, if_false, Bool.false_eq_true, Bool.not_true, Bool.not_false, true_and, and_true, reduceIte, startE, Option.some.injEq, Sl.sh.injEq, Sl.own.injEq, oey, oez, ofa, ofs, oft, ofu, v_ord, v_lensc, h, decide_false]
      exact fin _

abbrev sp_law : Sps := lawS 63
def r_law (T : Tx) : RS :=
  (sSeq (sRet (dCall fAll (dConsB (dLc (iRange1 (dConsB (dCall fMax (dConsB (dC (.int 2)) (dConsB (dCall fMin (dConsB (dCall fLen (dConsB (dVar 0) dNil)) (dConsB (dC (.int 3)) dNil))) dNil))) dNil)) [0] [1] (gN 1) dYes (dTurn T.pl 2 sp__law_well (dPos 2 (dCons (dVar 0) (dCons (dVar 1) dNil))))) dNil))) sNext)
theorem pure_law (T : Tx) (hT : T.pl = wellP) : ∀ ds Qd xd, ds.length = 1 → sp_law ds Qd xd → r_law T (kdOf Qd xd) (startE (["script", "spot"] : List Str) ds) := by
  rintro _ Qd xd _ ⟨ns, rfl, hlen, hb, q⟩
  unfold r_law
  try simp only [oaa, oab, oac, oad, oag, oah, oai, oak, oam, oaq, oas, obb, obe, obg, obn, obq, obr, obv, occ, ocd, ocg, ocn, ocp, ocq, ocr, ocs, oct, ocw, ode, odg, odh, odj, odq, odr, ods, odt, odu, odv, List.getElem?_cons_zero, List.getElem?_cons_succ, List.map_cons, List.map_nil, List.cons_append, List.nil_append, List.append_nil, List.length_cons, List.length_nil, List.set_cons_zero, List.set_cons_succ, List.replicate, Nat.sub_self, Nat.zero_add, Nat.reduceAdd, Nat.reduceSub, if_true, if_false, Bool.false_eq_true, Bool.not_true, Bool.not_false, true_and, and_true, reduceIte, startE, Option.some.injEq, Sl.sh.injEq, Sl.own.injEq, oeu, oev, oew, oex, oey, oez, ofa, ofs, oft, ofu, v_lensc, fMin, fMax]
  obtain ⟨n, hn, n5⟩ : ∃ n : Nat, max (2 : Int) (min (ns.length : Int) 3) = (n : Nat) ∧ n ≤ 3 := ⟨(max (2 : Int) (min (ns.length : Int) 3)).toNat, by omega, by omega⟩
  rw [hn]
  have hz : (ups 0 (n : Int).toNat).length ≤ sizeLine := by simp only [ups, List.length_map, List.length_range]; exact small_line (by omega)
  refine ⟨⟨by omega, by omega⟩, hz, ?_⟩
  simp only [oaa, oab, oac, oad, oag, oah, oai, oak, oam, oaq, oas, obb, obe, obg, obn, obq, obr, obv, occ, ocd, ocg, ocn, ocp, ocq, ocr, ocs, oct, ocw, ode, odg, odh, odj, odq, odr, ods, odt, odu, odv, List.getElem?_cons_zero, List.getElem?_cons_succ, List.map_cons, List.map_nil, List.cons_append, List.nil_append, List.append_nil, List.length_cons, List.length_nil, List.set_cons_zero, List.set_cons_succ, List.replicate, Nat.sub_self, Nat.zero_add, Nat.reduceAdd, Nat.reduceSub, if_true, if_false, Bool.false_eq_true, Bool.not_true, Bool.not_false, true_and, and_true, reduceIte, startE, frz, frz1, wipeE, Option.some.injEq, Sl.sh.injEq, Sl.own.injEq, oeu, oev, oew, oex, oey, oez, ofa, ofs, oft, ofu]
  unfold ups
  refine lcL_map (fun i : Nat => D.int (0 + (i : Nat))) (fun _ => .bl true) (fun i hi R hR => ?_) ?_
  · have hi := List.mem_range.mp hi
    simp only [oaa, oab, oac, oad, oag, oah, oai, oak, oam, oaq, oas, obb, obe, obg, obn, obq, obr, obv, occ, ocd, ocg, ocn, ocp, ocq, ocr, ocs, oct, ocw, ode, odg, odh, odj, odq, odr, ods, odt, odu, odv, List.getElem?_cons_zero, List.getElem?_cons_succ, List.map_cons, List.map_nil, List.cons_append, List.nil_append, List.append_nil, List.length_cons, List.length_nil, List.set_cons_zero, List.set_cons_succ, List.replicate, Nat.sub_self, Nat.zero_add, Nat.reduceAdd, Nat.reduceSub, if_true, if_false, Bool.false_eq_true, Bool.not_true, Bool.not_false, true_and, and_true, reduceIte, startE, frz, frz1, wipeE, Option.some.injEq, Sl.sh.injEq, Sl.own.injEq, oeu, oev, oew, oex, oey, oez, ofa, ofs, oft, ofu, Nat.reduceLT, Nat.lt_add_one]
    refine ⟨ns, _, rfl, by omega, by omega, hlen, fun a c a0 a1 c0 => ?_⟩
    simp only [oaa, oab, oac, oad, oag, oah, oai, oak, oam, oaq, oas, obb, obe, obg, obn, obq, obr, obv, occ, ocd, ocg, ocn, ocp, ocq, ocr, ocs, oct, ocw, ode, odg, odh, odj, odq, odr, ods, odt, odu, odv, List.getElem?_cons_zero, List.getElem?_cons_succ, List.map_cons, List.map_nil, List.cons_append, List.nil_append, List.append_nil, List.length_cons, List.length_nil, List.set_cons_zero, List.set_cons_succ, List.replicate, Nat.sub_self, Nat.zero_add, Nat.reduceAdd, Nat.reduceSub, if_true, if_false, Bool.false_eq_true, Bool.not_true, Bool.not_false, true_and, and_true, reduceIte, startE, frz, frz1, wipeE, Option.some.injEq, Sl.sh.injEq, Sl.own.injEq, oeu, oev, oew, oex, oey, oez, ofa, ofs, oft, ofu]
    exact ⟨⟨a, 0, c, rfl, by rw [hT]; exact ⟨a0, a1, Int.le_refl 0, c0⟩⟩, hR⟩
  · refine ⟨(List.range (n : Int).toNat).map fun _ => true, by rw [List.map_map]; rfl, ?_⟩
    have e : ((List.range (n : Int).toNat).map fun _ => true).all id = true := by simp
    rw [e]
    exact q

end Dc
set_option maxHeartbeats 2000000
namespace Dc
open PySem L2 PyProof.Rows PySem.W
def topS (i : Nat) : Stmt := PySem.Challenge.pw_degreerows_k33_sides_made_and_refused.main.body.getD i (.Pass ⟨0, 0, 0, 0⟩)
abbrev st__law_draw : Stmt := topS 78
abbrev st__law_pick : Stmt := topS 79
abbrev st__law_great : Stmt := topS 80
abbrev st__law_some : Stmt := topS 84
abbrev st__law_is_lot : Stmt := topS 82
abbrev st__law_wrong : Stmt := topS 83
abbrev st_Sides___repr__ : Stmt := inClass (topS 66) 6
abbrev st_Row___repr__ : Stmt := inClass (topS 33) 15
abbrev st__law_caught : Stmt := topS 81
abbrev st_is_integer : Stmt := topS 20
abbrev st_is_count : Stmt := topS 21
abbrev st_is_kind : Stmt := topS 24
abbrev st_wrong_kind : Stmt := topS 25
abbrev st_Sides___init__ : Stmt := inClass (topS 66) 1
abbrev st_Sides___eq__ : Stmt := inClass (topS 66) 5
abbrev st_Row___eq__ : Stmt := inClass (topS 33) 13
abbrev st_Sides_outer : Stmt := inClass (topS 66) 3
abbrev st_Sides_inner : Stmt := inClass (topS 66) 2
abbrev st_Row___init__ : Stmt := inClass (topS 33) 1
abbrev st_check_sides : Stmt := topS 67
abbrev st_can_face : Stmt := topS 68
abbrev st_sides_can_be : Stmt := topS 70
abbrev st_is_single : Stmt := topS 64
abbrev st_set_around : Stmt := topS 69
abbrev st_sides_one : Stmt := topS 71
abbrev st_check_facing : Stmt := topS 72
abbrev st_fitting_row : Stmt := topS 73
abbrev st_alone_row : Stmt := topS 75
abbrev st_check_row : Stmt := topS 39
abbrev st_check_can : Stmt := topS 45
abbrev st_Row_kinds : Stmt := inClass (topS 33) 4
abbrev st_around : Stmt := topS 74
abbrev st__law_right : Stmt := topS 85
abbrev st__law_well : Stmt := topS 77
abbrev st_law : Stmt := topS 86
structure Ad where
  C_Row : Addr
  C_Sides : Addr
  C_WrongValue : Addr
  C_WrongName : Addr
  C_NotPossible : Addr
  C_InvalidText : Addr
  C_InvalidNumber : Addr
  C_NotRow : Addr
  C_NotSides : Addr
  C_InvalidKinds : Addr
  C_InvalidInner : Addr
  C_InvalidOuter : Addr
  C_Cannot : Addr
  C_TooMany : Addr
  C_TooGreat : Addr
  f_InvalidText___init__ : Addr
  f_InvalidNumber___init__ : Addr
  f_NotRow___init__ : Addr
  f_NotSides___init__ : Addr
  f_InvalidKinds___init__ : Addr
  f_InvalidInner___init__ : Addr
  f_InvalidOuter___init__ : Addr
  f_Cannot___init__ : Addr
  f_TooMany___init__ : Addr
  f_TooGreat___init__ : Addr
  lc__law_right : Addr
  lp__law_right : Addr
  p_shape : Addr
  p_near : Addr
  p_far : Addr
  f__law_draw : Addr
  d__law_draw : FuncData
  f__law_pick : Addr
  d__law_pick : FuncData
  f__law_great : Addr
  d__law_great : FuncData
  f__law_some : Addr
  d__law_some : FuncData
  f__law_is_lot : Addr
  d__law_is_lot : FuncData
  f__law_wrong : Addr
  d__law_wrong : FuncData
  f_Sides___repr__ : Addr
  d_Sides___repr__ : FuncData
  f_Row___repr__ : Addr
  d_Row___repr__ : FuncData
  f__law_caught : Addr
  d__law_caught : FuncData
  f_is_integer : Addr
  d_is_integer : FuncData
  f_is_count : Addr
  d_is_count : FuncData
  f_is_kind : Addr
  d_is_kind : FuncData
  f_wrong_kind : Addr
  d_wrong_kind : FuncData
  f_Sides___init__ : Addr
  d_Sides___init__ : FuncData
  f_Sides___eq__ : Addr
  d_Sides___eq__ : FuncData
  f_Row___eq__ : Addr
  d_Row___eq__ : FuncData
  f_Sides_outer : Addr
  d_Sides_outer : FuncData
  p_Sides_outer : Addr
  f_Sides_inner : Addr
  d_Sides_inner : FuncData
  p_Sides_inner : Addr
  f_Row___init__ : Addr
  d_Row___init__ : FuncData
  f_check_sides : Addr
  d_check_sides : FuncData
  f_can_face : Addr
  d_can_face : FuncData
  f_sides_can_be : Addr
  d_sides_can_be : FuncData
  f_is_single : Addr
  d_is_single : FuncData
  f_set_around : Addr
  d_set_around : FuncData
  f_sides_one : Addr
  d_sides_one : FuncData
  f_check_facing : Addr
  d_check_facing : FuncData
  f_fitting_row : Addr
  d_fitting_row : FuncData
  f_alone_row : Addr
  d_alone_row : FuncData
  f_check_row : Addr
  d_check_row : FuncData
  f_check_can : Addr
  d_check_can : FuncData
  f_Row_kinds : Addr
  d_Row_kinds : FuncData
  p_Row_kinds : Addr
  f_around : Addr
  d_around : FuncData
  f__law_right : Addr
  d__law_right : FuncData
  f__law_well : Addr
  d__law_well : FuncData
  f_law : Addr
  d_law : FuncData
abbrev nm__law_right : Str := (envOfC "_law_right" (defScope st__law_right) 0 0 .none).qual ++ "<lambda>"
abbrev tabsOf (A : Ad) : List (Addr × Addr × Str) := [(A.lc__law_right, A.lp__law_right, nm__law_right)]
abbrev txOf (A : Ad) (K : Frag) : Tx := ⟨K, fun n => if n = 20 then A.C_InvalidText else if n = 23 then A.C_InvalidNumber else if n = 28 then A.C_NotRow else if n = 29 then A.C_NotSides else if n = 30 then A.C_InvalidKinds else if n = 32 then A.C_InvalidInner else if n = 33 then A.C_InvalidOuter else if n = 38 then A.C_Cannot else if n = 39 then A.C_TooMany else if n = 40 then A.C_TooGreat else if n = 1 then A.C_Sides else A.C_Row, wellP, fun i j => if j = 0 then some (decide (i = 0)) else if j = 1 then some (decide (i = 1)) else none, (tabsOf A).map (·.2), xfL, none⟩
structure Txt (A : Ad) (K : Frag) (mg : Str → Option Value) : Prop where
  scls_Row : SlX.SCls K A.C_Row
  scls_Sides : SlX.SCls K A.C_Sides
  fu__law_draw : Fun K "_law_draw" "_law_draw" st__law_draw A.f__law_draw A.d__law_draw
  fu__law_pick : Fun K "_law_pick" "_law_pick" st__law_pick A.f__law_pick A.d__law_pick
  fu__law_great : Fun K "_law_great" "_law_great" st__law_great A.f__law_great A.d__law_great
  fu__law_some : Fun K "_law_some" "_law_some" st__law_some A.f__law_some A.d__law_some
  fu__law_is_lot : Fun K "_law_is_lot" "_law_is_lot" st__law_is_lot A.f__law_is_lot A.d__law_is_lot
  fu__law_wrong : Fun K "_law_wrong" "_law_wrong" st__law_wrong A.f__law_wrong A.d__law_wrong
  fu_Sides___repr__ : Fun K "__repr__" "Sides.__repr__" st_Sides___repr__ A.f_Sides___repr__ A.d_Sides___repr__
  fu_Row___repr__ : Fun K "__repr__" "Row.__repr__" st_Row___repr__ A.f_Row___repr__ A.d_Row___repr__
  fu__law_caught : Fun K "_law_caught" "_law_caught" st__law_caught A.f__law_caught A.d__law_caught
  fu_is_integer : Fun K "is_integer" "is_integer" st_is_integer A.f_is_integer A.d_is_integer
  fu_is_count : Fun K "is_count" "is_count" st_is_count A.f_is_count A.d_is_count
  fu_is_kind : Fun K "is_kind" "is_kind" st_is_kind A.f_is_kind A.d_is_kind
  fu_wrong_kind : Fun K "wrong_kind" "wrong_kind" st_wrong_kind A.f_wrong_kind A.d_wrong_kind
  fu_Sides___init__ : Fun K "__init__" "Sides.__init__" st_Sides___init__ A.f_Sides___init__ A.d_Sides___init__
  fu_Sides___eq__ : Fun K "__eq__" "Sides.__eq__" st_Sides___eq__ A.f_Sides___eq__ A.d_Sides___eq__
  fu_Row___eq__ : Fun K "__eq__" "Row.__eq__" st_Row___eq__ A.f_Row___eq__ A.d_Row___eq__
  fu_Sides_outer : Fun K "outer" "Sides.outer" st_Sides_outer A.f_Sides_outer A.d_Sides_outer
  fu_Sides_inner : Fun K "inner" "Sides.inner" st_Sides_inner A.f_Sides_inner A.d_Sides_inner
  fu_Row___init__ : Fun K "__init__" "Row.__init__" st_Row___init__ A.f_Row___init__ A.d_Row___init__
  fu_check_sides : Fun K "check_sides" "check_sides" st_check_sides A.f_check_sides A.d_check_sides
  fu_can_face : Fun K "can_face" "can_face" st_can_face A.f_can_face A.d_can_face
  fu_sides_can_be : Fun K "sides_can_be" "sides_can_be" st_sides_can_be A.f_sides_can_be A.d_sides_can_be
  fu_is_single : Fun K "is_single" "is_single" st_is_single A.f_is_single A.d_is_single
  fu_set_around : Fun K "set_around" "set_around" st_set_around A.f_set_around A.d_set_around
  fu_sides_one : Fun K "sides_one" "sides_one" st_sides_one A.f_sides_one A.d_sides_one
  fu_check_facing : Fun K "check_facing" "check_facing" st_check_facing A.f_check_facing A.d_check_facing
  fu_fitting_row : Fun K "fitting_row" "fitting_row" st_fitting_row A.f_fitting_row A.d_fitting_row
  fu_alone_row : Fun K "alone_row" "alone_row" st_alone_row A.f_alone_row A.d_alone_row
  fu_check_row : Fun K "check_row" "check_row" st_check_row A.f_check_row A.d_check_row
  fu_check_can : Fun K "check_can" "check_can" st_check_can A.f_check_can A.d_check_can
  fu_Row_kinds : Fun K "kinds" "Row.kinds" st_Row_kinds A.f_Row_kinds A.d_Row_kinds
  fu_around : Fun K "around" "around" st_around A.f_around A.d_around
  fu__law_right : Fun K "_law_right" "_law_right" st__law_right A.f__law_right A.d__law_right
  fu__law_well : Fun K "_law_well" "_law_well" st__law_well A.f__law_well A.d__law_well
  fu_law : Fun K "law" "law" st_law A.f_law A.d_law
  z_all : mg "all" = none
  z_range : mg "range" = none
  z_max : mg "max" = none
  z_min : mg "min" = none
  z_len : mg "len" = none
  m__law_draw : mg "_law_draw" = some (.ref A.f__law_draw)
  m__law_pick : mg "_law_pick" = some (.ref A.f__law_pick)
  z_int : mg "int" = none
  m__law_great : mg "_law_great" = some (.ref A.f__law_great)
  z_list : mg "list" = none
  z_tuple : mg "tuple" = none
  m__law_some : mg "_law_some" = some (.ref A.f__law_some)
  z_isinstance : mg "isinstance" = none
  is_tuple : IsF K (txOf A K) (.type "tuple") bTup obLow
  z_bool : mg "bool" = none
  is_bool : IsF K (txOf A K) (.type "bool") bBool obLow
  is_int : IsF K (txOf A K) (.type "int") bInt obLow
  m__law_is_lot : mg "_law_is_lot" = some (.ref A.f__law_is_lot)
  z_str : mg "str" = none
  m__law_wrong : mg "_law_wrong" = some (.ref A.f__law_wrong)
  m_WrongValue : mg "WrongValue" = some (.ref A.C_WrongValue)
  m_WrongName : mg "WrongName" = some (.ref A.C_WrongName)
  m_NotPossible : mg "NotPossible" = some (.ref A.C_NotPossible)
  m__law_caught : mg "_law_caught" = some (.ref A.f__law_caught)
  hx_ans : ∀ n, xmOf [20, 23, 28, 29, 30, 32, 33, 38, 39, 40] n = true → exmAny K (.ref ((txOf A K).cl n)) [.ref A.C_WrongValue, .ref A.C_WrongName, .ref A.C_NotPossible] = some true
  hx_err : ∀ n, xmOf [20, 23, 28, 29, 30, 32, 33, 38, 39, 40] n = true → ExcC K ((txOf A K).cl n) ∧ findIn K (.ref ((txOf A K).cl n)) ((txOf A K).xf n) = some none
  m_NotSides : mg "NotSides" = some (.ref A.C_NotSides)
  ix_NotSides : ∀ n b, xtOf [(20, false), (23, false), (28, false), (29, true), (30, false), (32, false), (33, false), (38, false), (39, false), (40, false)] n = some b → kitOne K (.ref ((txOf A K).cl n)) (.ref A.C_NotSides) = some b
  m_InvalidOuter : mg "InvalidOuter" = some (.ref A.C_InvalidOuter)
  ix_InvalidOuter : ∀ n b, xtOf [(20, false), (23, false), (28, false), (29, false), (30, false), (32, false), (33, true), (38, false), (39, false), (40, false)] n = some b → kitOne K (.ref ((txOf A K).cl n)) (.ref A.C_InvalidOuter) = some b
  m_InvalidInner : mg "InvalidInner" = some (.ref A.C_InvalidInner)
  ix_InvalidInner : ∀ n b, xtOf [(20, false), (23, false), (28, false), (29, false), (30, false), (32, true), (33, false), (38, false), (39, false), (40, false)] n = some b → kitOne K (.ref ((txOf A K).cl n)) (.ref A.C_InvalidInner) = some b
  z_ValueError : mg "ValueError" = none
  ix_ValueError : ∀ n b, xtOf [(20, true), (23, true), (28, true), (29, true), (30, true), (32, true), (33, true), (38, false), (39, false), (40, false)] n = some b → kitOne K (.ref ((txOf A K).cl n)) (.type "ValueError") = some b
  sl_near : SlX.Slot1 K A.C_Sides "near" A.p_near 1
  sl_far : SlX.Slot1 K A.C_Sides "far" A.p_far 0
  me_Sides___repr__ : findIn K (.ref A.C_Sides) "__repr__" = some (some (.ref A.f_Sides___repr__)) ∧ isFn K (.ref A.f_Sides___repr__) = true
  sl_shape : SlX.Slot1 K A.C_Row "shape" A.p_shape 0
  me_Row___repr__ : findIn K (.ref A.C_Row) "__repr__" = some (some (.ref A.f_Row___repr__)) ∧ isFn K (.ref A.f_Row___repr__) = true
  z_repr : mg "repr" = none
  z_enumerate : mg "enumerate" = none
  c_MOST_KINDS : ∃ tk, mg "MOST_KINDS" = some (Value.int 10 tk)
  m_is_integer : mg "is_integer" = some (.ref A.f_is_integer)
  m_is_count : mg "is_count" = some (.ref A.f_is_count)
  c_MOST_DEGREE : ∃ tk, mg "MOST_DEGREE" = some (Value.int 10000000000000000000000000000000 tk)
  c_MOST_COUNT : ∃ tk, mg "MOST_COUNT" = some (Value.int 1000000000000000000000000000000 tk)
  m_is_kind : mg "is_kind" = some (.ref A.f_is_kind)
  m_wrong_kind : mg "wrong_kind" = some (.ref A.f_wrong_kind)
  xt_InvalidInner : XTxt K mg "InvalidInner" A.C_InvalidInner A.f_InvalidInner___init__ "index"
  xt_InvalidOuter : XTxt K mg "InvalidOuter" A.C_InvalidOuter A.f_InvalidOuter___init__ "index"
  m_Sides : mg "Sides" = some (.ref A.C_Sides)
  mk_Sides : Mk K A.C_Sides A.f_Sides___init__
  lc__law_right : A.d__law_right.code = .ref A.lc__law_right
  hu__law_right : ∀ p ∈ (txOf A K).tb, p.1 = A.lp__law_right → p.2 = nm__law_right
  is_Sides : IsF K (txOf A K) (.ref A.C_Sides) {} ((txOf A K).ob 1)
  me_Sides___eq__ : findIn K (.ref A.C_Sides) "__eq__" = some (some (.ref A.f_Sides___eq__)) ∧ isFn K (.ref A.f_Sides___eq__) = true
  ne_Sides : findIn K (.ref A.C_Sides) "__ne__" = some (some (.builtin "object.__ne__")) ∧ mroIn K A.C_Sides (.type "object") = some true
  m_Row : mg "Row" = some (.ref A.C_Row)
  is_Row : IsF K (txOf A K) (.ref A.C_Row) {} ((txOf A K).ob 0)
  me_Row___eq__ : findIn K (.ref A.C_Row) "__eq__" = some (some (.ref A.f_Row___eq__)) ∧ isFn K (.ref A.f_Row___eq__) = true
  ne_Row : findIn K (.ref A.C_Row) "__ne__" = some (some (.builtin "object.__ne__")) ∧ mroIn K A.C_Row (.type "object") = some true
  pr_Sides_outer : findIn K (.ref A.C_Sides) "outer" = some (some (.ref A.p_Sides_outer)) ∧ specialIn K (.ref A.p_Sides_outer) "__get__" = some (some (.builtin "property.__get__")) ∧ takesIn K (.ref A.p_Sides_outer) = some true ∧ ∃ rest, recIn K A.p_Sides_outer "property" = some (.ref A.f_Sides_outer :: rest)
  pr_Sides_inner : findIn K (.ref A.C_Sides) "inner" = some (some (.ref A.p_Sides_inner)) ∧ specialIn K (.ref A.p_Sides_inner) "__get__" = some (some (.builtin "property.__get__")) ∧ takesIn K (.ref A.p_Sides_inner) = some true ∧ ∃ rest, recIn K A.p_Sides_inner "property" = some (.ref A.f_Sides_inner :: rest)
  xt_InvalidKinds : XTxt K mg "InvalidKinds" A.C_InvalidKinds A.f_InvalidKinds___init__ "index"
  mk_Row : Mk K A.C_Row A.f_Row___init__
  xt_NotSides : XTxt K mg "NotSides" A.C_NotSides A.f_NotSides___init__ "given"
  m_check_sides : mg "check_sides" = some (.ref A.f_check_sides)
  m_can_face : mg "can_face" = some (.ref A.f_can_face)
  m_sides_can_be : mg "sides_can_be" = some (.ref A.f_sides_can_be)
  m_is_single : mg "is_single" = some (.ref A.f_is_single)
  m_set_around : mg "set_around" = some (.ref A.f_set_around)
  m_sides_one : mg "sides_one" = some (.ref A.f_sides_one)
  m_check_facing : mg "check_facing" = some (.ref A.f_check_facing)
  m_fitting_row : mg "fitting_row" = some (.ref A.f_fitting_row)
  m_alone_row : mg "alone_row" = some (.ref A.f_alone_row)
  m_check_row : mg "check_row" = some (.ref A.f_check_row)
  m_check_can : mg "check_can" = some (.ref A.f_check_can)
  pr_Row_kinds : findIn K (.ref A.C_Row) "kinds" = some (some (.ref A.p_Row_kinds)) ∧ specialIn K (.ref A.p_Row_kinds) "__get__" = some (some (.builtin "property.__get__")) ∧ takesIn K (.ref A.p_Row_kinds) = some true ∧ ∃ rest, recIn K A.p_Row_kinds "property" = some (.ref A.f_Row_kinds :: rest)
  m_around : mg "around" = some (.ref A.f_around)
  z_abs : mg "abs" = none
  m__law_right : mg "_law_right" = some (.ref A.f__law_right)
  m__law_well : mg "_law_well" = some (.ref A.f__law_well)
  z_divmod : mg "divmod" = none
structure TxB (A : Ad) (K : Frag) (mg : Str → Option Value) (base : Heap) : Prop extends Txt A K mg where
  tb : ∀ q ∈ tabsOf A, LamX.TabB base mg q.1 q.2.1
theorem xo_given : ∀ n, xmOf [20, 23, 28, 29, 38, 39, 40] n = true → xfL n = "given" := (xm_cons rfl (xm_cons rfl (xm_cons rfl (xm_cons rfl (xm_cons rfl (xm_cons rfl (xm_cons rfl xm_nil)))))))
theorem xo_index : ∀ n, xmOf [30, 32, 33] n = true → xfL n = "index" := (xm_cons rfl (xm_cons rfl (xm_cons rfl xm_nil)))
section
variable {P : Program} {w : World} {A : Ad} {K : Frag} {mg : Str → Option Value} {base : Heap}
theorem q_gint {X : Cx} {T : Tx} {W : WX} {x : Str} {pos : Pos} {i : Int} (h : ∃ tk, X.mg x = some (Value.int i tk)) (hg : Gl X x := by rfl) (hd : (x == ("__debug__" : Str)) = false := by decide) : PE X (.Name x pos) (liftE T W (dC (.int i))) := by
  obtain ⟨tk, h⟩ := h
  exact qe_glob h (v := .int i) ⟨tk, rfl⟩ (fun _ _ => .int i) hg hd
theorem kb__law_draw_2 (tx : TxB A K mg base) : KB K A.d__law_draw (["well", "many"] : List Str) 2 ([] : List Str) := kb_of tx.fu__law_draw fun _ _ _ _ _ _ us ws h1 h2 => match us, ws, h1, h2 with | [_, _], [], _, _ => rfl
theorem kb__law_pick_2 (tx : TxB A K mg base) : KB K A.d__law_pick (["well", "choices"] : List Str) 2 ([] : List Str) := kb_of tx.fu__law_pick fun _ _ _ _ _ _ us ws h1 h2 => match us, ws, h1, h2 with | [_, _], [], _, _ => rfl
theorem kb__law_great_1 (tx : TxB A K mg base) : KB K A.d__law_great (["well"] : List Str) 1 ([] : List Str) := kb_of tx.fu__law_great fun _ _ _ _ _ _ us ws h1 h2 => match us, ws, h1, h2 with | [_], [], _, _ => rfl
theorem kb__law_some_1 (tx : TxB A K mg base) : KB K A.d__law_some (["well"] : List Str) 1 ([] : List Str) := kb_of tx.fu__law_some fun _ _ _ _ _ _ us ws h1 h2 => match us, ws, h1, h2 with | [_], [], _, _ => rfl
theorem kb__law_is_lot_2 (tx : TxB A K mg base) : KB K A.d__law_is_lot (["thing", "before"] : List Str) 2 ([] : List Str) := kb_of tx.fu__law_is_lot fun _ _ _ _ _ _ us ws h1 h2 => match us, ws, h1, h2 with | [_, _], [], _, _ => rfl
theorem kb__law_wrong_1 (tx : TxB A K mg base) : KB K A.d__law_wrong (["thing"] : List Str) 1 ([] : List Str) := kb_of tx.fu__law_wrong fun _ _ _ _ _ _ us ws h1 h2 => match us, ws, h1, h2 with | [_], [], _, _ => rfl
theorem kb_Sides___repr___1 (tx : TxB A K mg base) : KB K A.d_Sides___repr__ (["self"] : List Str) 1 ([] : List Str) := kb_of tx.fu_Sides___repr__ fun _ _ _ _ _ _ us ws h1 h2 => match us, ws, h1, h2 with | [_], [], _, _ => rfl
theorem kb_Row___repr___1 (tx : TxB A K mg base) : KB K A.d_Row___repr__ (["self"] : List Str) 1 ([] : List Str) := kb_of tx.fu_Row___repr__ fun _ _ _ _ _ _ us ws h1 h2 => match us, ws, h1, h2 with | [_], [], _, _ => rfl
theorem kb_is_integer_1 (tx : TxB A K mg base) : KB K A.d_is_integer (["value"] : List Str) 1 ([] : List Str) := kb_of tx.fu_is_integer fun _ _ _ _ _ _ us ws h1 h2 => match us, ws, h1, h2 with | [_], [], _, _ => rfl
theorem kb_is_count_1 (tx : TxB A K mg base) : KB K A.d_is_count (["value"] : List Str) 1 ([] : List Str) := kb_of tx.fu_is_count fun _ _ _ _ _ _ us ws h1 h2 => match us, ws, h1, h2 with | [_], [], _, _ => rfl
theorem kb_is_kind_2 (tx : TxB A K mg base) : KB K A.d_is_kind (["value", "before"] : List Str) 2 ([] : List Str) := kb_of tx.fu_is_kind fun _ _ _ _ _ _ us ws h1 h2 => match us, ws, h1, h2 with | [_, _], [], _, _ => rfl
theorem kb_wrong_kind_1 (tx : TxB A K mg base) : KB K A.d_wrong_kind (["value"] : List Str) 1 ([] : List Str) := kb_of tx.fu_wrong_kind fun _ _ _ _ _ _ us ws h1 h2 => match us, ws, h1, h2 with | [_], [], _, _ => rfl
theorem kb_Sides___init___3 (tx : TxB A K mg base) : KB K A.d_Sides___init__ (["self", "inner", "outer"] : List Str) 3 ([] : List Str) := kb_of tx.fu_Sides___init__ fun _ _ _ _ _ _ us ws h1 h2 => match us, ws, h1, h2 with | [_, _, _], [], _, _ => rfl
theorem kb_Sides___eq___2 (tx : TxB A K mg base) : KB K A.d_Sides___eq__ (["self", "other"] : List Str) 2 ([] : List Str) := kb_of tx.fu_Sides___eq__ fun _ _ _ _ _ _ us ws h1 h2 => match us, ws, h1, h2 with | [_, _], [], _, _ => rfl
theorem kb_Row___eq___2 (tx : TxB A K mg base) : KB K A.d_Row___eq__ (["self", "other"] : List Str) 2 ([] : List Str) := kb_of tx.fu_Row___eq__ fun _ _ _ _ _ _ us ws h1 h2 => match us, ws, h1, h2 with | [_, _], [], _, _ => rfl
theorem kb_Sides_outer_1 (tx : TxB A K mg base) : KB K A.d_Sides_outer (["self"] : List Str) 1 ([] : List Str) := kb_of tx.fu_Sides_outer fun _ _ _ _ _ _ us ws h1 h2 => match us, ws, h1, h2 with | [_], [], _, _ => rfl
theorem kb_Sides_inner_1 (tx : TxB A K mg base) : KB K A.d_Sides_inner (["self"] : List Str) 1 ([] : List Str) := kb_of tx.fu_Sides_inner fun _ _ _ _ _ _ us ws h1 h2 => match us, ws, h1, h2 with | [_], [], _, _ => rfl
theorem kb_Row___init___2 (tx : TxB A K mg base) : KB K A.d_Row___init__ (["self", "kinds"] : List Str) 2 ([] : List Str) := kb_of tx.fu_Row___init__ fun _ _ _ _ _ _ us ws h1 h2 => match us, ws, h1, h2 with | [_, _], [], _, _ => rfl
theorem kb_check_sides_1 (tx : TxB A K mg base) : KB K A.d_check_sides (["value"] : List Str) 1 ([] : List Str) := kb_of tx.fu_check_sides fun _ _ _ _ _ _ us ws h1 h2 => match us, ws, h1, h2 with | [_], [], _, _ => rfl
theorem kb_can_face_2 (tx : TxB A K mg base) : KB K A.d_can_face (["inner", "outer"] : List Str) 2 ([] : List Str) := kb_of tx.fu_can_face fun _ _ _ _ _ _ us ws h1 h2 => match us, ws, h1, h2 with | [_, _], [], _, _ => rfl
theorem kb_sides_can_be_1 (tx : TxB A K mg base) : KB K A.d_sides_can_be (["sides"] : List Str) 1 ([] : List Str) := kb_of tx.fu_sides_can_be fun _ _ _ _ _ _ us ws h1 h2 => match us, ws, h1, h2 with | [_], [], _, _ => rfl
theorem kb_is_single_1 (tx : TxB A K mg base) : KB K A.d_is_single (["kinds"] : List Str) 1 ([] : List Str) := kb_of tx.fu_is_single fun _ _ _ _ _ _ us ws h1 h2 => match us, ws, h1, h2 with | [_], [], _, _ => rfl
theorem kb_set_around_3 (tx : TxB A K mg base) : KB K A.d_set_around (["inner", "outer", "kinds"] : List Str) 3 ([] : List Str) := kb_of tx.fu_set_around fun _ _ _ _ _ _ us ws h1 h2 => match us, ws, h1, h2 with | [_, _, _], [], _, _ => rfl
theorem kb_sides_one_0_sides (tx : TxB A K mg base) : KB K A.d_sides_one (["sides"] : List Str) 0 (["sides"] : List Str) := kb_of tx.fu_sides_one fun _ _ _ _ _ _ us ws h1 h2 => match us, ws, h1, h2 with | [], [_], _, _ => rfl
theorem kb_check_facing_1 (tx : TxB A K mg base) : KB K A.d_check_facing (["sides"] : List Str) 1 ([] : List Str) := kb_of tx.fu_check_facing fun _ _ _ _ _ _ us ws h1 h2 => match us, ws, h1, h2 with | [_], [], _, _ => rfl
theorem kb_fitting_row_1 (tx : TxB A K mg base) : KB K A.d_fitting_row (["kinds"] : List Str) 1 ([] : List Str) := kb_of tx.fu_fitting_row fun _ _ _ _ _ _ us ws h1 h2 => match us, ws, h1, h2 with | [_], [], _, _ => rfl
theorem kb_alone_row_1 (tx : TxB A K mg base) : KB K A.d_alone_row (["sides"] : List Str) 1 ([] : List Str) := kb_of tx.fu_alone_row fun _ _ _ _ _ _ us ws h1 h2 => match us, ws, h1, h2 with | [_], [], _, _ => rfl
theorem kb_check_row_1 (tx : TxB A K mg base) : KB K A.d_check_row (["value"] : List Str) 1 ([] : List Str) := kb_of tx.fu_check_row fun _ _ _ _ _ _ us ws h1 h2 => match us, ws, h1, h2 with | [_], [], _, _ => rfl
theorem kb_check_can_1 (tx : TxB A K mg base) : KB K A.d_check_can (["row"] : List Str) 1 ([] : List Str) := kb_of tx.fu_check_can fun _ _ _ _ _ _ us ws h1 h2 => match us, ws, h1, h2 with | [_], [], _, _ => rfl
theorem kb_Row_kinds_1 (tx : TxB A K mg base) : KB K A.d_Row_kinds (["self"] : List Str) 1 ([] : List Str) := kb_of tx.fu_Row_kinds fun _ _ _ _ _ _ us ws h1 h2 => match us, ws, h1, h2 with | [_], [], _, _ => rfl
theorem kb_around_2 (tx : TxB A K mg base) : KB K A.d_around (["sides", "row"] : List Str) 2 ([] : List Str) := kb_of tx.fu_around fun _ _ _ _ _ _ us ws h1 h2 => match us, ws, h1, h2 with | [_, _], [], _, _ => rfl
theorem kb__law_right_1 (tx : TxB A K mg base) : KB K A.d__law_right (["well"] : List Str) 1 ([] : List Str) := kb_of tx.fu__law_right fun _ _ _ _ _ _ us ws h1 h2 => match us, ws, h1, h2 with | [_], [], _, _ => rfl
theorem kb__law_well_2 (tx : TxB A K mg base) : KB K A.d__law_well (["script", "spot"] : List Str) 2 ([] : List Str) := kb_of tx.fu__law_well fun _ _ _ _ _ _ us ws h1 h2 => match us, ws, h1, h2 with | [_, _], [], _, _ => rfl
theorem kbp_Sides___init___outer_inner (tx : TxB A K mg base) : KBp [1, 0] K A.d_Sides___init__ (["self", "inner", "outer"] : List Str) (["outer", "inner"] : List Str) := kbp_of tx.fu_Sides___init__ fun _ _ _ _ _ _ u ws h2 => match ws, h2 with | [_, _], _ => rfl
theorem sc__law_draw : FnScope (["well", "many", "digit", "seed"] : List Str) (["well", "many"] : List Str) (defScope st__law_draw) := ⟨rfl, rfl, rfl, by decide +kernel, rfl, by decide +kernel, by decide +kernel⟩
theorem ok__law_draw (tx : TxB A K mg base) : FnG P w K mg base 1 A.f__law_draw A.d__law_draw (["well", "many"] : List Str) (spD (txOf A K) 2 castS) := by
  refine fnG_of (k := 0) tx.fu__law_draw sc__law_draw (fun vs H Q E h => h.len) fun cdv Ar outer s H vs Q E hr hg h => ?_
  obtain ⟨a, m, x, y, z, rfl, hH, hp, h1, h2, q⟩ := cast_spD h
  exact ⟨_, (pss_cons (ps_if (pt_cmpR op_gt (pe_ix ix_list (pv 0) pe_int fun _ _ => rfl) pe_int (nobehind _ (by decide) (by decide))) (pss_cons (ps_asg (pe_callB call_divmodW (by rfl) tx.z_divmod (by decide +kernel) (pa_cons (pe_ix ix_list (pv 0) pe_int fun _ _ => rfl) (pa_cons (pv 1) pa_nil))) (pg_tup rfl (pgs_cons (pg_sub (pv 0) pe_int set_list) (pgs_cons (pg_name (i := 2) sc__law_draw.nd rfl (Or.inl rfl)) pgs_nil)))) (pss_cons (ps_ret (pv 2)) pss_nil)) pss_nil)
  (pss_cons (ps_asg (pe_op op_add (pe_ix ix_list (pv 0) pe_int fun _ _ => rfl) pe_int) (pg_sub (pv 0) pe_int set_list))
  (pss_cons (ps_set (i := 3) sc__law_draw.nd rfl (Or.inl rfl) (pe_callTy call_int1 (by rfl) tx.z_int (by decide +kernel) (pa_cons (pe_ix ix_list (pv 0) pe_int fun _ _ => rfl) pa_nil)))
  (pss_cons (ps_asg (pe_op op_mod (pe_callTy call_int1 (by rfl) tx.z_int (by decide +kernel) (pa_cons (pe_op op_add (pe_op op_add (pe_op op_mul (pv 3) pe_int) (pe_op op_mul (pe_ix ix_list (pv 0) pe_int fun _ _ => rfl) pe_int)) pe_int) pa_nil)) pe_int) (pg_sub (pv 0) pe_int set_list))
  (pss_cons (ps_ret (pe_op op_mod (pe_callTy call_int1 (by rfl) tx.z_int (by decide +kernel) (pa_cons (pe_op op_fdiv (pe_ix ix_list (pv 0) pe_int fun _ _ => rfl) pe_int) pa_nil)) (pv 1))) pss_nil))))), draw_ok (w1 := none) (w2 := none) hH hp h1 h2 q⟩
theorem sc__law_pick : FnScope (["well", "choices"] : List Str) (["well", "choices"] : List Str) (defScope st__law_pick) := ⟨rfl, rfl, rfl, by decide +kernel, rfl, by decide +kernel, by decide +kernel⟩
theorem ok__law_pick (tx : TxB A K mg base) : FnG P w K mg base 2 A.f__law_pick A.d__law_pick (["well", "choices"] : List Str) (spD (txOf A K) 2 sp__law_pick) :=
  fnG_ok (T := txOf A K) (k := 1) (r__law_pick (txOf A K)) tx.fu__law_pick sc__law_pick (fun cdv Ar outer s H E hr hg =>
  (qss_cons (qs_ret (qe_ix (opd_ixA hr) (qe_var 1) (qe_f (ok__law_draw tx) (hr.mono (by decide)) hg tx.m__law_draw tx.fu__law_draw.kp (kb__law_draw_2 tx) (takes_of rfl rfl rfl rfl) (qc_pos (qa_cons (qe_var 0) (qa_cons (qe_callB (cd_len) tx.z_len (by decide +kernel) (qb_cons (qe_var 1) qb_nil)) qa_nil))))))
  qss_nil)) (pure__law_pick (txOf A K))
theorem sc__law_great : FnScope (["well", "found", "turn"] : List Str) (["well"] : List Str) (defScope st__law_great) := ⟨rfl, rfl, rfl, by decide +kernel, rfl, by decide +kernel, by decide +kernel⟩
theorem ok__law_great (tx : TxB A K mg base) : FnG P w K mg base 2 A.f__law_great A.d__law_great (["well"] : List Str) (spD (txOf A K) 1 sp__law_great) :=
  fnG_ok (T := txOf A K) (k := 1) (r__law_great (txOf A K)) tx.fu__law_great sc__law_great (fun cdv Ar outer s H E hr hg =>
  (qss_cons (qs_set 1 sc__law_great.nd qe_int)
  (qss_cons (qs_for (passes_of rfl) rfl (qi_range1 tx.z_range (qb_cons (qe_op opd_add qe_int (qe_f (ok__law_draw tx) (hr.mono (by decide)) hg tx.m__law_draw tx.fu__law_draw.kp (kb__law_draw_2 tx) (takes_of rfl rfl rfl rfl) (qc_pos (qa_cons (qe_var 0) (qa_cons qe_int qa_nil))))) qb_nil)) (qg_name 2 sc__law_great.nd)
  (qss_cons (qs_set 1 sc__law_great.nd (qe_op opd_add (qe_op opd_mul qe_int (qe_var 1)) (qe_f (ok__law_draw tx) (hr.mono (by decide)) hg tx.m__law_draw tx.fu__law_draw.kp (kb__law_draw_2 tx) (takes_of rfl rfl rfl rfl) (qc_pos (qa_cons (qe_var 0) (qa_cons qe_int qa_nil))))))
  qss_nil))
  (qss_cons (qs_ret (qe_var 1))
  qss_nil)))) (pure__law_great (txOf A K))
theorem sc__law_some : FnScope (["well", "size", "found", "at", "odd", "k"] : List Str) (["well"] : List Str) (defScope st__law_some) := ⟨rfl, rfl, rfl, by decide +kernel, rfl, by decide +kernel, by decide +kernel⟩
theorem ok__law_some (tx : TxB A K mg base) : FnG P w K mg base 3 A.f__law_some A.d__law_some (["well"] : List Str) (spD (txOf A K) 1 sp__law_some) :=
  fnG_ok (T := txOf A K) (k := 2) (r__law_some (txOf A K)) tx.fu__law_some sc__law_some (fun cdv Ar outer s H E hr hg =>
  (qss_cons (qs_set 1 sc__law_some.nd (qe_f (ok__law_pick tx) (hr.mono (by decide)) hg tx.m__law_pick tx.fu__law_pick.kp (kb__law_pick_2 tx) (takes_of rfl rfl rfl rfl) (qc_pos (qa_cons (qe_var 0) (qa_cons (qe_lst (qa_cons qe_int (qa_cons qe_int (qa_cons qe_int (qa_cons qe_int (qa_cons qe_int (qa_cons qe_int (qa_cons qe_int qa_nil)))))))) qa_nil)))))
  (qss_cons (qs_setLc 2 [("k", 5)] [0] rfl sc__law_some.nd (qi_range1 tx.z_range (qb_cons (qe_var 1) qb_nil)) (blkOk_by (N := (["well", "size", "found", "at", "odd", "k"] : List Str)) (sc := defScope st__law_some) (by decide +kernel)) (by decide) (fun _ _ _ _ _ => (qg_name 5 sc__law_some.nd)) (fun _ _ _ _ _ => qts_nil) (fun _ _ _ _ _ => (qe_tup (qa_cons (qe_op opd_sub qe_int (qe_op opd_mul qe_int (qe_var 5))) (qa_cons (qe_op opd_add qe_int (qe_callT (cd_int) tx.z_int (by decide +kernel) (qb_cons (qe_f (ok__law_great tx) (hr.mono (by decide)) hg tx.m__law_great tx.fu__law_great.kp (kb__law_great_1 tx) takes0 (qc_pos (qa_cons (qe_var 0) qa_nil))) qb_nil))) qa_nil)))))
  (qss_cons (qs_if (qt_cmp (opd_eq hr) (qe_f (ok__law_draw tx) (hr.mono (by decide)) hg tx.m__law_draw tx.fu__law_draw.kp (kb__law_draw_2 tx) (takes_of rfl rfl rfl rfl) (qc_pos (qa_cons (qe_var 0) (qa_cons qe_int qa_nil)))) qe_int) (qss_cons (qs_set 3 sc__law_some.nd (qe_f (ok__law_draw tx) (hr.mono (by decide)) hg tx.m__law_draw tx.fu__law_draw.kp (kb__law_draw_2 tx) (takes_of rfl rfl rfl rfl) (qc_pos (qa_cons (qe_var 0) (qa_cons (qe_var 1) qa_nil)))))
  (qss_cons (qs_set 4 sc__law_some.nd (qe_lst (qa_cons (qe_tup (qa_cons qe_int (qa_cons qe_int qa_nil))) (qa_cons (qe_tup (qa_cons qe_int (qa_cons qe_bl qa_nil))) (qa_cons (qe_tup (qa_cons (qe_un opd_neg qe_int) (qa_cons qe_int qa_nil))) (qa_cons (qe_tup (qa_cons qe_int (qa_cons qe_int qa_nil))) (qa_cons (qe_tup (qa_cons qe_int qa_nil)) (qa_cons (qe_lst (qa_cons qe_int (qa_cons qe_int qa_nil))) (qa_cons qe_non (qa_cons (qe_tup (qa_cons (qe_op opd_add (qe_op opd_pow qe_int qe_int) qe_int) (qa_cons qe_int qa_nil))) (qa_cons (qe_tup (qa_cons (qe_op opd_pow qe_int qe_int) (qa_cons qe_int qa_nil))) (qa_cons (qe_tup (qa_cons qe_int (qa_cons (qe_op opd_add (qe_op opd_pow qe_int qe_int) qe_int) qa_nil))) qa_nil))))))))))))
  (qss_cons (qs_put 2 hr (qe_f (ok__law_pick tx) (hr.mono (by decide)) hg tx.m__law_pick tx.fu__law_pick.kp (kb__law_pick_2 tx) (takes_of rfl rfl rfl rfl) (qc_pos (qa_cons (qe_var 0) (qa_cons (qe_op opd_add (qe_var 4) (qe_lst (qa_cons (qe_tup (qa_cons qe_int (qa_cons qe_str qa_nil))) (qa_cons (qe_ix (opd_ixA hr) (qe_var 2) (qe_callB (cd_max rfl) tx.z_max (by decide +kernel) (qb_cons qe_int (qb_cons (qe_op opd_sub (qe_var 3) qe_int) qb_nil)))) (qa_cons (qe_tup (qa_cons qe_int (qa_cons qe_int qa_nil))) qa_nil))))) qa_nil)))) (qe_var 3))
  qss_nil))) qss_nil)
  (qss_cons (qs_ret (qe_f (ok__law_pick tx) (hr.mono (by decide)) hg tx.m__law_pick tx.fu__law_pick.kp (kb__law_pick_2 tx) (takes_of rfl rfl rfl rfl) (qc_pos (qa_cons (qe_var 0) (qa_cons (qe_lst (qa_cons (qe_callT (cd_tuple) tx.z_tuple (by decide +kernel) (qb_cons (qe_var 2) qb_nil)) (qa_cons (qe_callT (cd_tuple) tx.z_tuple (by decide +kernel) (qb_cons (qe_var 2) qb_nil)) (qa_cons (qe_callT (cd_tuple) tx.z_tuple (by decide +kernel) (qb_cons (qe_var 2) qb_nil)) (qa_cons (qe_callT (cd_tuple) tx.z_tuple (by decide +kernel) (qb_cons (qe_var 2) qb_nil)) (qa_cons (qe_callT (cd_list rfl) tx.z_list (by decide +kernel) (qb_cons (qe_var 2) qb_nil)) (qa_cons (qe_tup qa_nil) (qa_cons qe_non (qa_cons qe_str qa_nil))))))))) qa_nil)))))
  qss_nil))))) (pure__law_some (txOf A K))
theorem sc__law_is_lot : FnScope (["thing", "before", "k"] : List Str) (["thing", "before"] : List Str) (defScope st__law_is_lot) := ⟨rfl, rfl, rfl, by decide +kernel, rfl, by decide +kernel, by decide +kernel⟩
theorem ok__law_is_lot (tx : TxB A K mg base) : FnG P w K mg base 2 A.f__law_is_lot A.d__law_is_lot (["thing", "before"] : List Str) (spD (txOf A K) 2 sp__law_is_lot) :=
  fnG_ok (T := txOf A K) (k := 1) (r__law_is_lot (txOf A K)) tx.fu__law_is_lot sc__law_is_lot (fun cdv Ar outer s H E hr hg =>
  (qss_cons (qs_if (qw_or (qt_not (qt_truth (qe_isiT tx.is_tuple tx.z_isinstance tx.z_tuple (by decide +kernel) (qe_var 0)))) (qw_or1 (qt_cmp (opd_ne hr) (qe_callB (cd_len) tx.z_len (by decide +kernel) (qb_cons (qe_var 0) qb_nil)) qe_int))).pt (qss_cons (qs_ret qe_bl)
  qss_nil) qss_nil)
  (qss_cons (qs_for (passes_of rfl) rfl (qi_range1 tx.z_range (qb_cons qe_int qb_nil)) (qg_name 2 sc__law_is_lot.nd)
  (qss_cons (qs_if (qw_or (qt_truth (qe_isiT tx.is_bool tx.z_isinstance tx.z_bool (by decide +kernel) (qe_ix (opd_ixA hr) (qe_var 0) (qe_var 2)))) (qw_or1 (qt_not (qt_truth (qe_isiT tx.is_int tx.z_isinstance tx.z_int (by decide +kernel) (qe_ix (opd_ixA hr) (qe_var 0) (qe_var 2))))))).pt (qss_cons (qs_ret qe_bl)
  qss_nil) qss_nil)
  qss_nil))
  (qss_cons (qs_if (qw_or (qt_not (qt_chain opd_le opd_le qe_int (qe_ix (opd_ixA hr) (qe_var 0) qe_int) (qe_op opd_pow qe_int qe_int))) (qw_or1 (qt_not (qt_chain opd_le opd_le qe_int (qe_ix (opd_ixA hr) (qe_var 0) qe_int) (qe_op opd_pow qe_int qe_int))))).pt (qss_cons (qs_ret qe_bl)
  qss_nil) qss_nil)
  (qss_cons (qs_ret (qe_or (qe_cmp opd_is (qe_var 1) qe_non) (qe_one (qe_cmp opd_lt (qe_ix (opd_ixA hr) (qe_var 0) qe_int) (qe_ix (opd_ixA hr) (qe_var 1) qe_int)))))
  qss_nil))))) (pure__law_is_lot (txOf A K))
theorem sc__law_wrong : FnScope (["thing", "k"] : List Str) (["thing"] : List Str) (defScope st__law_wrong) := ⟨rfl, rfl, rfl, by decide +kernel, rfl, by decide +kernel, by decide +kernel⟩
theorem ok__law_wrong (tx : TxB A K mg base) : FnG P w K mg base 3 A.f__law_wrong A.d__law_wrong (["thing"] : List Str) (spD (txOf A K) 1 sp__law_wrong) :=
  fnG_ok (T := txOf A K) (k := 2) (r__law_wrong (txOf A K)) tx.fu__law_wrong sc__law_wrong (fun cdv Ar outer s H E hr hg =>
  (qss_cons (qs_if (qw_or (qt_not (qt_truth (qe_isiT tx.is_tuple tx.z_isinstance tx.z_tuple (by decide +kernel) (qe_var 0)))) (qw_or1 (qt_cmp (opd_eq0 hr) (qe_var 0) (qe_tup qa_nil)))).pt (qss_cons (qs_ret qe_str)
  qss_nil) qss_nil)
  (qss_cons (qs_for (passes_of rfl) rfl (qi_range1 tx.z_range (qb_cons (qe_callB (cd_len) tx.z_len (by decide +kernel) (qb_cons (qe_var 0) qb_nil)) qb_nil)) (qg_name 1 sc__law_wrong.nd)
  (qss_cons (qs_if (qw_or (qt_cmp (opd_eq hr) (qe_var 1) qe_int) (qw_or1 (qt_not (qt_truth (qe_f (ok__law_is_lot tx) (hr.mono (by decide)) hg tx.m__law_is_lot tx.fu__law_is_lot.kp (kb__law_is_lot_2 tx) (takes_of rfl rfl rfl rfl) (qc_pos (qa_cons (qe_ix (opd_ixA hr) (qe_var 0) (qe_var 1)) (qa_cons (qe_if (qt_cmp (opd_eq hr) (qe_var 1) qe_int) qe_non (qe_ix (opd_ixA hr) (qe_var 0) (qe_op opd_sub (qe_var 1) qe_int))) qa_nil)))))))).pt (qss_cons (qs_ret (qe_callT (cd_str) tx.z_str (by decide +kernel) (qb_cons (qe_var 1) qb_nil)))
  qss_nil) qss_nil)
  qss_nil))
  (qss_cons (qs_ret qe_str)
  qss_nil)))) (pure__law_wrong (txOf A K))
theorem sc_Sides___repr__ : FnScope (["self"] : List Str) (["self"] : List Str) (defScope st_Sides___repr__) := ⟨rfl, rfl, rfl, by decide +kernel, rfl, by decide +kernel, by decide +kernel⟩
theorem ok_Sides___repr__ (tx : TxB A K mg base) : FnG P w K mg base 2 A.f_Sides___repr__ A.d_Sides___repr__ (["self"] : List Str) (spD (txOf A K) 1 sp_Sides___repr__) :=
  fnG_ok (T := txOf A K) (k := 1) (r_Sides___repr__ (txOf A K)) tx.fu_Sides___repr__ sc_Sides___repr__ (fun cdv Ar outer s H E hr hg =>
  (qss_cons (qs_ret (qe_js (qj_cons qe_str (qj_cons (qe_fmt (qe_callB (cd_len) tx.z_len (by decide +kernel) (qb_cons (qe_sl tx.scls_Sides tx.sl_near (qe_var 0)) qb_nil))) (qj_cons qe_str (qj_cons (qe_fmt (qe_callB (cd_len) tx.z_len (by decide +kernel) (qb_cons (qe_sl tx.scls_Sides tx.sl_far (qe_var 0)) qb_nil))) (qj_cons qe_str qj_nil)))))))
  qss_nil)) (pure_Sides___repr__ (txOf A K))
theorem okV_Sides___repr__ (tx : TxB A K mg base) {a n p : Nat} : FnV P w K mg base 2 A.f_Sides___repr__ A.d_Sides___repr__ (["self"] : List Str) (spD ((txOf A K).on a n p) 1 sp_Sides___repr__) :=
  fnV_ok (T := (txOf A K).on a n p) (k := 1) (r_Sides___repr__ ((txOf A K).on a n p)) tx.fu_Sides___repr__ sc_Sides___repr__ (fun cdv Ar outer s H E p hr hg =>
  (qss_cons (qs_ret (qe_js (qj_cons qe_str (qj_cons (qe_fmt (qe_callB (cd_len) tx.z_len (by decide +kernel) (qb_cons (qe_sl tx.scls_Sides tx.sl_near (qe_var 0)) qb_nil))) (qj_cons qe_str (qj_cons (qe_fmt (qe_callB (cd_len) tx.z_len (by decide +kernel) (qb_cons (qe_sl tx.scls_Sides tx.sl_far (qe_var 0)) qb_nil))) (qj_cons qe_str qj_nil)))))))
  qss_nil)) (pure_Sides___repr__ ((txOf A K).on a n p))
theorem sc_Row___repr__ : FnScope (["self"] : List Str) (["self"] : List Str) (defScope st_Row___repr__) := ⟨rfl, rfl, rfl, by decide +kernel, rfl, by decide +kernel, by decide +kernel⟩
theorem ok_Row___repr__ (tx : TxB A K mg base) : FnG P w K mg base 2 A.f_Row___repr__ A.d_Row___repr__ (["self"] : List Str) (spD (txOf A K) 1 sp_Row___repr__) :=
  fnG_ok (T := txOf A K) (k := 1) (r_Row___repr__ (txOf A K)) tx.fu_Row___repr__ sc_Row___repr__ (fun cdv Ar outer s H E hr hg =>
  (qss_cons (qs_ret (qe_js (qj_cons qe_str (qj_cons (qe_fmt (qe_callB (cd_len) tx.z_len (by decide +kernel) (qb_cons (qe_sl tx.scls_Row tx.sl_shape (qe_var 0)) qb_nil))) (qj_cons qe_str qj_nil)))))
  qss_nil)) (pure_Row___repr__ (txOf A K))
theorem okV_Row___repr__ (tx : TxB A K mg base) {a n p : Nat} : FnV P w K mg base 2 A.f_Row___repr__ A.d_Row___repr__ (["self"] : List Str) (spD ((txOf A K).on a n p) 1 sp_Row___repr__) :=
  fnV_ok (T := (txOf A K).on a n p) (k := 1) (r_Row___repr__ ((txOf A K).on a n p)) tx.fu_Row___repr__ sc_Row___repr__ (fun cdv Ar outer s H E p hr hg =>
  (qss_cons (qs_ret (qe_js (qj_cons qe_str (qj_cons (qe_fmt (qe_callB (cd_len) tx.z_len (by decide +kernel) (qb_cons (qe_sl tx.scls_Row tx.sl_shape (qe_var 0)) qb_nil))) (qj_cons qe_str qj_nil)))))
  qss_nil)) (pure_Row___repr__ ((txOf A K).on a n p))
theorem sc__law_caught : FnScope (["act", "e", "sorts", "word"] : List Str) (["act"] : List Str) (defScope st__law_caught) := ⟨rfl, rfl, rfl, by decide +kernel, rfl, by decide +kernel, by decide +kernel⟩
theorem bt__law_caught (tx : TxB A K mg base) : ∀ (s : Shared) (u : Value), BindsTo s A.d__law_caught ⟨[u], []⟩ [("act", u)] := by
  obtain ⟨_, _, _, _, _, _, _, _, _, e, _, _⟩ := tx.fu__law_caught.ex
  intro s u
  rw [e]
  exact .of_eq rfl
theorem su__law_caught (tx : TxB A K mg base) {Ao : Around} {outer : List PySem.Env} {cdg : Value} {s : Shared} {H : Hp} {b : Addr} {oe : PySem.Obj} {n : Nat} {p : Addr} {pn : List (Addr × PySem.Obj)} (hot : HotX (((cxOf C8.CX0 P w K mg base (["act", "e", "sorts", "word"] : List Str) "_law_caught" (defScope st__law_caught) A.f__law_caught cdg Ao outer s H C8.E0).nox).suite b ((b, oe) :: pn)) ((txOf A K).on b n p) b oe n p) (hr : L2H.RoomH 3 (((cxOf C8.CX0 P w K mg base (["act", "e", "sorts", "word"] : List Str) "_law_caught" (defScope st__law_caught) A.f__law_caught cdg Ao outer s H C8.E0).nox).suite b ((b, oe) :: pn)).A) (hg : (((cxOf C8.CX0 P w K mg base (["act", "e", "sorts", "word"] : List Str) "_law_caught" (defScope st__law_caught) A.f__law_caught cdg Ao outer s H C8.E0).nox).suite b ((b, oe) :: pn)).A.guards = some []) :
    PSs (((cxOf C8.CX0 P w K mg base (["act", "e", "sorts", "word"] : List Str) "_law_caught" (defScope st__law_caught) A.f__law_caught cdg Ao outer s H C8.E0).nox).suite b ((b, oe) :: pn)) (trySuite (defBody st__law_caught)) (liftS ((txOf A K).on b n p) noW (s__law_caught (txOf A K))) :=
  (qss_cons (qs_set 2 sc__law_caught.nd (qe_lst (qa_cons (qe_isXC hot (tx.ix_InvalidInner _) tx.z_isinstance tx.m_InvalidInner (qe_var 1)) (qa_cons (qe_isXC hot (tx.ix_InvalidOuter _) tx.z_isinstance tx.m_InvalidOuter (qe_var 1)) (qa_cons (qe_isXC hot (tx.ix_NotSides _) tx.z_isinstance tx.m_NotSides (qe_var 1)) qa_nil)))))
  (qss_cons (qs_if (qw_or (qt_cmp (opd_neH hr) (qe_cntB (qe_var 2) qe_bl) qe_int) (qw_or1 (qt_not (qt_truth (qe_isXT hot (tx.ix_ValueError _) tx.z_isinstance tx.z_ValueError (by decide +kernel) (qe_var 1)))))).pt (qss_cons (qs_ret (qe_lst (qa_cons qe_str (qa_cons qe_str qa_nil))))
  qss_nil) qss_nil)
  (qss_cons (qs_set 3 sc__law_caught.nd (qe_ix (opd_ixAH hr) (qe_lst (qa_cons qe_str (qa_cons qe_str (qa_cons qe_str qa_nil)))) (qe_idxB (qe_var 2) qe_bl)))
  (qss_cons (qs_ret (qe_lst (qa_cons (qe_var 3) (qa_cons (qe_if (qt_truth (qe_ix (opd_ixAH hr) (qe_var 2) qe_int)) (qe_oneB (co_reprV (cn := 0) (okV_Row___repr__ tx) (hr.mono (by decide)) hg hot.pn (kb_Row___repr___1 tx) tx.me_Row___repr__.1 tx.me_Row___repr__.2 (co_reprV (cn := 1) (okV_Sides___repr__ tx) (hr.mono (by decide)) hg hot.pn (kb_Sides___repr___1 tx) tx.me_Sides___repr__.1 tx.me_Sides___repr__.2 (co_none (cd_reprH hr hg)))) tx.z_repr (by decide +kernel) (qe_xf hot (xo_given _) (qe_var 1))) (qe_oneB (co_reprV (cn := 0) (okV_Row___repr__ tx) (hr.mono (by decide)) hg hot.pn (kb_Row___repr___1 tx) tx.me_Row___repr__.1 tx.me_Row___repr__.2 (co_reprV (cn := 1) (okV_Sides___repr__ tx) (hr.mono (by decide)) hg hot.pn (kb_Sides___repr___1 tx) tx.me_Sides___repr__.1 tx.me_Sides___repr__.2 (co_none (cd_reprH hr hg)))) tx.z_repr (by decide +kernel) (qe_xf hot (xo_index _) (qe_var 1)))) qa_nil))))
  qss_nil))))
theorem rr__law_caught (tx : TxB A K mg base) {Ao : Around} {outer : List PySem.Env} {cdg : Value} {s : Shared} {H : Hp} (hr : Room 3 ((cxOf C8.CX0 P w K mg base (["act", "e", "sorts", "word"] : List Str) "_law_caught" (defScope st__law_caught) A.f__law_caught cdg Ao outer s H C8.E0).nox).A) (hg : ((cxOf C8.CX0 P w K mg base (["act", "e", "sorts", "word"] : List Str) "_law_caught" (defScope st__law_caught) A.f__law_caught cdg Ao outer s H C8.E0).nox).A.guards = some []) :
    PSs ((cxOf C8.CX0 P w K mg base (["act", "e", "sorts", "word"] : List Str) "_law_caught" (defScope st__law_caught) A.f__law_caught cdg Ao outer s H C8.E0).nox) (tryRest (defBody st__law_caught)) (liftS (txOf A K) noW (e__law_caught (txOf A K))) :=
  qss_nil
theorem sc_is_integer : FnScope (["value"] : List Str) (["value"] : List Str) (defScope st_is_integer) := ⟨rfl, rfl, rfl, by decide +kernel, rfl, by decide +kernel, by decide +kernel⟩
theorem ok_is_integer (tx : TxB A K mg base) : FnG P w K mg base 2 A.f_is_integer A.d_is_integer (["value"] : List Str) (spD (txOf A K) 1 sp_is_integer) :=
  fnG_ok (T := txOf A K) (k := 1) (r_is_integer (txOf A K)) tx.fu_is_integer sc_is_integer (fun cdv Ar outer s H E hr hg =>
  (qss_cons (qs_ret (qe_and (qe_isiT tx.is_int tx.z_isinstance tx.z_int (by decide +kernel) (qe_var 0)) (qe_one (qe_not (qe_isiT tx.is_bool tx.z_isinstance tx.z_bool (by decide +kernel) (qe_var 0))))))
  qss_nil)) (pure_is_integer (txOf A K))
theorem sc_is_count : FnScope (["value"] : List Str) (["value"] : List Str) (defScope st_is_count) := ⟨rfl, rfl, rfl, by decide +kernel, rfl, by decide +kernel, by decide +kernel⟩
theorem ok_is_count (tx : TxB A K mg base) : FnG P w K mg base 3 A.f_is_count A.d_is_count (["value"] : List Str) (spD (txOf A K) 1 sp_is_count) :=
  fnG_ok (T := txOf A K) (k := 2) (r_is_count (txOf A K)) tx.fu_is_count sc_is_count (fun cdv Ar outer s H E hr hg =>
  (qss_cons (qs_ret (qe_and (qe_f (ok_is_integer tx) (hr.mono (by decide)) hg tx.m_is_integer tx.fu_is_integer.kp (kb_is_integer_1 tx) (takes_of rfl rfl rfl rfl) (qc_pos (qa_cons (qe_var 0) qa_nil))) (qe_one (qe_cmp opd_ge (qe_var 0) qe_int))))
  qss_nil)) (pure_is_count (txOf A K))
theorem sc_is_kind : FnScope (["value", "before"] : List Str) (["value", "before"] : List Str) (defScope st_is_kind) := ⟨rfl, rfl, rfl, by decide +kernel, rfl, by decide +kernel, by decide +kernel⟩
theorem ok_is_kind (tx : TxB A K mg base) : FnG P w K mg base 4 A.f_is_kind A.d_is_kind (["value", "before"] : List Str) (spD (txOf A K) 2 sp_is_kind) :=
  fnG_ok (T := txOf A K) (k := 3) (r_is_kind (txOf A K)) tx.fu_is_kind sc_is_kind (fun cdv Ar outer s H E hr hg =>
  (qss_cons (qs_if (qw_or (qt_not (qt_truth (qe_isiT tx.is_tuple tx.z_isinstance tx.z_tuple (by decide +kernel) (qe_var 0)))) (qw_or (qt_cmp (opd_ne hr) (qe_callB (cd_len) tx.z_len (by decide +kernel) (qb_cons (qe_var 0) qb_nil)) qe_int) (qw_or (qt_not (qt_truth (qe_f (ok_is_count tx) (hr.mono (by decide)) hg tx.m_is_count tx.fu_is_count.kp (kb_is_count_1 tx) (takes_of rfl rfl rfl rfl) (qc_pos (qa_cons (qe_ix (opd_ixA hr) (qe_var 0) qe_int) qa_nil))))) (qw_or1 (qt_cmp opd_gt (qe_ix (opd_ixA hr) (qe_var 0) qe_int) (q_gint tx.c_MOST_DEGREE)))))).pt (qss_cons (qs_ret qe_bl)
  qss_nil) qss_nil)
  (qss_cons (qs_if (qw_or (qt_not (qt_truth (qe_f (ok_is_integer tx) (hr.mono (by decide)) hg tx.m_is_integer tx.fu_is_integer.kp (kb_is_integer_1 tx) (takes_of rfl rfl rfl rfl) (qc_pos (qa_cons (qe_ix (opd_ixA hr) (qe_var 0) qe_int) qa_nil))))) (qw_or1 (qt_not (qt_chain opd_le opd_le qe_int (qe_ix (opd_ixA hr) (qe_var 0) qe_int) (q_gint tx.c_MOST_COUNT))))).pt (qss_cons (qs_ret qe_bl)
  qss_nil) qss_nil)
  (qss_cons (qs_ret (qe_or (qe_cmp opd_is (qe_var 1) qe_non) (qe_one (qe_cmp opd_lt (qe_ix (opd_ixA hr) (qe_var 0) qe_int) (qe_ix (opd_ixA hr) (qe_var 1) qe_int)))))
  qss_nil)))) (pure_is_kind (txOf A K))
theorem sc_wrong_kind : FnScope (["value", "at", "kind"] : List Str) (["value"] : List Str) (defScope st_wrong_kind) := ⟨rfl, rfl, rfl, by decide +kernel, rfl, by decide +kernel, by decide +kernel⟩
theorem ok_wrong_kind (tx : TxB A K mg base) : FnG P w K mg base 5 A.f_wrong_kind A.d_wrong_kind (["value"] : List Str) (spD (txOf A K) 1 sp_wrong_kind) :=
  fnG_ok (T := txOf A K) (k := 4) (r_wrong_kind (txOf A K)) tx.fu_wrong_kind sc_wrong_kind (fun cdv Ar outer s H E hr hg =>
  (qss_cons (qs_if (qw_or (qt_not (qt_truth (qe_isiT tx.is_tuple tx.z_isinstance tx.z_tuple (by decide +kernel) (qe_var 0)))) (qw_or1 (qt_cmp (opd_eq hr) (qe_callB (cd_len) tx.z_len (by decide +kernel) (qb_cons (qe_var 0) qb_nil)) qe_int))).pt (qss_cons (qs_ret (qe_un opd_neg qe_int))
  qss_nil) qss_nil)
  (qss_cons (qs_for (passes_of rfl) rfl (qi_enum tx.z_enumerate (qe_var 0)) (qg_tup rfl (qgs_cons (qg_name 1 sc_wrong_kind.nd) (qgs_cons (qg_name 2 sc_wrong_kind.nd) qgs_nil)))
  (qss_cons (qs_if (qw_or (qt_cmp (opd_eq hr) (qe_var 1) (q_gint tx.c_MOST_KINDS)) (qw_or1 (qt_not (qt_truth (qe_f (ok_is_kind tx) (hr.mono (by decide)) hg tx.m_is_kind tx.fu_is_kind.kp (kb_is_kind_2 tx) (takes_of rfl rfl rfl rfl) (qc_pos (qa_cons (qe_var 2) (qa_cons (qe_if (qt_cmp (opd_eq hr) (qe_var 1) qe_int) qe_non (qe_ix (opd_ixA hr) (qe_var 0) (qe_op opd_sub (qe_var 1) qe_int))) qa_nil)))))))).pt (qss_cons (qs_ret (qe_var 1))
  qss_nil) qss_nil)
  qss_nil))
  (qss_cons (qs_ret qe_non)
  qss_nil)))) (pure_wrong_kind (txOf A K))
theorem sc_Sides___init__ : FnScope (["self", "inner", "outer", "at"] : List Str) (["self", "inner", "outer"] : List Str) (defScope st_Sides___init__) := ⟨rfl, rfl, rfl, by decide +kernel, rfl, by decide +kernel, by decide +kernel⟩
theorem ok_Sides___init__ (tx : TxB A K mg base) : FnG P w K mg base 6 A.f_Sides___init__ A.d_Sides___init__ (["self", "inner", "outer"] : List Str) (spI (txOf A K) 1 3 sp_Sides___init__) :=
  fnI_ok (T := txOf A K) (cn := 1) (k := 5) (r_Sides___init__ (txOf A K)) tx.fu_Sides___init__ sc_Sides___init__ (fun cdv Ar outer s H E hr hg =>
  (qsi_pre (qs_set 3 sc_Sides___init__.nd (qe_f (ok_wrong_kind tx) (hr.mono (by decide)) hg tx.m_wrong_kind tx.fu_wrong_kind.kp (kb_wrong_kind_1 tx) (takes_of rfl rfl rfl rfl) (qc_pos (qa_cons (qe_var 1) qa_nil))))
  (qsi_pre (qs_if (qt_cmp opd_isnot (qe_var 3) qe_non) (qss_cons (qs_raise (n := 32) rfl tx.xt_InvalidInner hr (takes_of rfl rfl rfl rfl) (qa_cons (qe_if (qt_cmp opd_lt (qe_var 3) qe_int) qe_non (qe_var 3)) qa_nil))
  qss_nil) qss_nil)
  (qsi_pre (qs_set 3 sc_Sides___init__.nd (qe_f (ok_wrong_kind tx) (hr.mono (by decide)) hg tx.m_wrong_kind tx.fu_wrong_kind.kp (kb_wrong_kind_1 tx) (takes_of rfl rfl rfl rfl) (qc_pos (qa_cons (qe_var 2) qa_nil))))
  (qsi_pre (qs_if (qt_cmp opd_isnot (qe_var 3) qe_non) (qss_cons (qs_raise (n := 33) rfl tx.xt_InvalidOuter hr (takes_of rfl rfl rfl rfl) (qa_cons (qe_if (qt_cmp opd_lt (qe_var 3) qe_int) qe_non (qe_var 3)) qa_nil))
  qss_nil) qss_nil)
  (qsi_st2 tx.scls_Sides tx.sl_near tx.sl_far (qe_var 1) (qe_var 2))))))) (pure_Sides___init__ (txOf A K))
theorem sc_Sides___eq__ : FnScope (["self", "other"] : List Str) (["self", "other"] : List Str) (defScope st_Sides___eq__) := ⟨rfl, rfl, rfl, by decide +kernel, rfl, by decide +kernel, by decide +kernel⟩
theorem ok_Sides___eq__ (tx : TxB A K mg base) : FnG P w K mg base 2 A.f_Sides___eq__ A.d_Sides___eq__ (["self", "other"] : List Str) (spD (txOf A K) 2 sp_Sides___eq__) :=
  fnG_ok (T := txOf A K) (k := 1) (r_Sides___eq__ (txOf A K)) tx.fu_Sides___eq__ sc_Sides___eq__ (fun cdv Ar outer s H E hr hg =>
  (qss_cons (qs_ret (qe_and (qe_isiC tx.is_Sides tx.z_isinstance tx.m_Sides (qe_var 1)) (qe_and (qe_cmp (opd_eq hr) (qe_sl tx.scls_Sides tx.sl_near (qe_var 0)) (qe_sl tx.scls_Sides tx.sl_near (qe_var 1))) (qe_one (qe_cmp (opd_eq hr) (qe_sl tx.scls_Sides tx.sl_far (qe_var 0)) (qe_sl tx.scls_Sides tx.sl_far (qe_var 1)))))))
  qss_nil)) (pure_Sides___eq__ (txOf A K) rfl)
theorem sc_Row___eq__ : FnScope (["self", "other"] : List Str) (["self", "other"] : List Str) (defScope st_Row___eq__) := ⟨rfl, rfl, rfl, by decide +kernel, rfl, by decide +kernel, by decide +kernel⟩
theorem ok_Row___eq__ (tx : TxB A K mg base) : FnG P w K mg base 2 A.f_Row___eq__ A.d_Row___eq__ (["self", "other"] : List Str) (spD (txOf A K) 2 sp_Row___eq__) :=
  fnG_ok (T := txOf A K) (k := 1) (r_Row___eq__ (txOf A K)) tx.fu_Row___eq__ sc_Row___eq__ (fun cdv Ar outer s H E hr hg =>
  (qss_cons (qs_ret (qe_and (qe_isiC tx.is_Row tx.z_isinstance tx.m_Row (qe_var 1)) (qe_one (qe_cmp (opd_eq hr) (qe_sl tx.scls_Row tx.sl_shape (qe_var 0)) (qe_sl tx.scls_Row tx.sl_shape (qe_var 1))))))
  qss_nil)) (pure_Row___eq__ (txOf A K) rfl)
theorem sc_Sides_outer : FnScope (["self"] : List Str) (["self"] : List Str) (defScope st_Sides_outer) := ⟨rfl, rfl, rfl, by decide +kernel, rfl, by decide +kernel, by decide +kernel⟩
theorem ok_Sides_outer (tx : TxB A K mg base) : FnG P w K mg base 2 A.f_Sides_outer A.d_Sides_outer (["self"] : List Str) (spD (txOf A K) 1 sp_Sides_outer) :=
  fnG_ok (T := txOf A K) (k := 1) (r_Sides_outer (txOf A K)) tx.fu_Sides_outer sc_Sides_outer (fun cdv Ar outer s H E hr hg =>
  (qss_cons (qs_ret (qe_sl tx.scls_Sides tx.sl_far (qe_var 0)))
  qss_nil)) (pure_Sides_outer (txOf A K))
theorem sc_Sides_inner : FnScope (["self"] : List Str) (["self"] : List Str) (defScope st_Sides_inner) := ⟨rfl, rfl, rfl, by decide +kernel, rfl, by decide +kernel, by decide +kernel⟩
theorem ok_Sides_inner (tx : TxB A K mg base) : FnG P w K mg base 2 A.f_Sides_inner A.d_Sides_inner (["self"] : List Str) (spD (txOf A K) 1 sp_Sides_inner) :=
  fnG_ok (T := txOf A K) (k := 1) (r_Sides_inner (txOf A K)) tx.fu_Sides_inner sc_Sides_inner (fun cdv Ar outer s H E hr hg =>
  (qss_cons (qs_ret (qe_sl tx.scls_Sides tx.sl_near (qe_var 0)))
  qss_nil)) (pure_Sides_inner (txOf A K))
theorem sc_Row___init__ : FnScope (["self", "kinds", "at"] : List Str) (["self", "kinds"] : List Str) (defScope st_Row___init__) := ⟨rfl, rfl, rfl, by decide +kernel, rfl, by decide +kernel, by decide +kernel⟩
theorem ok_Row___init__ (tx : TxB A K mg base) : FnG P w K mg base 6 A.f_Row___init__ A.d_Row___init__ (["self", "kinds"] : List Str) (spI (txOf A K) 0 2 sp_Row___init__) :=
  fnI_ok (T := txOf A K) (cn := 0) (k := 5) (r_Row___init__ (txOf A K)) tx.fu_Row___init__ sc_Row___init__ (fun cdv Ar outer s H E hr hg =>
  (qsi_pre (qs_set 2 sc_Row___init__.nd (qe_f (ok_wrong_kind tx) (hr.mono (by decide)) hg tx.m_wrong_kind tx.fu_wrong_kind.kp (kb_wrong_kind_1 tx) (takes_of rfl rfl rfl rfl) (qc_pos (qa_cons (qe_var 1) qa_nil))))
  (qsi_pre (qs_if (qt_cmp opd_isnot (qe_var 2) qe_non) (qss_cons (qs_raise (n := 30) rfl tx.xt_InvalidKinds hr (takes_of rfl rfl rfl rfl) (qa_cons (qe_if (qt_cmp opd_lt (qe_var 2) qe_int) qe_non (qe_var 2)) qa_nil))
  qss_nil) qss_nil)
  (qsi_st tx.scls_Row tx.sl_shape (qe_var 1) qsi_end)))) (pure_Row___init__ (txOf A K))
theorem sc_check_sides : FnScope (["value"] : List Str) (["value"] : List Str) (defScope st_check_sides) := ⟨rfl, rfl, rfl, by decide +kernel, rfl, by decide +kernel, by decide +kernel⟩
theorem ok_check_sides (tx : TxB A K mg base) : FnG P w K mg base 2 A.f_check_sides A.d_check_sides (["value"] : List Str) (spD (txOf A K) 1 sp_check_sides) :=
  fnG_ok (T := txOf A K) (k := 1) (r_check_sides (txOf A K)) tx.fu_check_sides sc_check_sides (fun cdv Ar outer s H E hr hg =>
  (qss_cons (qs_if (qt_not (qt_truth (qe_isiC tx.is_Sides tx.z_isinstance tx.m_Sides (qe_var 0)))) (qss_cons (qs_raise (n := 29) rfl tx.xt_NotSides hr (takes_of rfl rfl rfl rfl) (qa_cons (qe_var 0) qa_nil))
  qss_nil) qss_nil)
  qss_nil)) (pure_check_sides (txOf A K) rfl)
theorem ok_can_face (tx : TxB A K mg base) : FnG P w K mg base 1 A.f_can_face A.d_can_face (["inner", "outer"] : List Str) (spD (txOf A K) 2 sp_can_face) := fnG_none (T := txOf A K)
theorem sc_sides_can_be : FnScope (["sides"] : List Str) (["sides"] : List Str) (defScope st_sides_can_be) := ⟨rfl, rfl, rfl, by decide +kernel, rfl, by decide +kernel, by decide +kernel⟩
theorem ok_sides_can_be (tx : TxB A K mg base) : FnG P w K mg base 3 A.f_sides_can_be A.d_sides_can_be (["sides"] : List Str) (spD (txOf A K) 1 sp_sides_can_be) :=
  fnG_ok (T := txOf A K) (k := 2) (r_sides_can_be (txOf A K)) tx.fu_sides_can_be sc_sides_can_be (fun cdv Ar outer s H E hr hg =>
  (qss_cons (qs_expr (qe_f (ok_check_sides tx) (hr.mono (by decide)) hg tx.m_check_sides tx.fu_check_sides.kp (kb_check_sides_1 tx) (takes_of rfl rfl rfl rfl) (qc_pos (qa_cons (qe_var 0) qa_nil))))
  (qss_cons (qs_ret (qe_f (ok_can_face tx) (hr.mono (by decide)) hg tx.m_can_face tx.fu_can_face.kp (kb_can_face_2 tx) (takes_of rfl rfl rfl rfl) (qc_pos (qa_cons (qe_sl tx.scls_Sides tx.sl_near (qe_var 0)) (qa_cons (qe_sl tx.scls_Sides tx.sl_far (qe_var 0)) qa_nil)))))
  qss_nil))) (pure_sides_can_be (txOf A K))
theorem ok_is_single (tx : TxB A K mg base) : FnG P w K mg base 1 A.f_is_single A.d_is_single (["kinds"] : List Str) (spD (txOf A K) 1 sp_is_single) := fnG_none (T := txOf A K)
theorem ok_set_around (tx : TxB A K mg base) : FnG P w K mg base 1 A.f_set_around A.d_set_around (["inner", "outer", "kinds"] : List Str) (spD (txOf A K) 3 sp_set_around) := fnG_none (T := txOf A K)
theorem sc_sides_one : FnScope (["sides"] : List Str) (["sides"] : List Str) (defScope st_sides_one) := ⟨rfl, rfl, rfl, by decide +kernel, rfl, by decide +kernel, by decide +kernel⟩
theorem ok_sides_one (tx : TxB A K mg base) : FnG P w K mg base 3 A.f_sides_one A.d_sides_one (["sides"] : List Str) (spD (txOf A K) 1 sp_sides_one) :=
  fnG_ok (T := txOf A K) (k := 2) (r_sides_one (txOf A K)) tx.fu_sides_one sc_sides_one (fun cdv Ar outer s H E hr hg =>
  (qss_cons (qs_expr (qe_f (ok_check_sides tx) (hr.mono (by decide)) hg tx.m_check_sides tx.fu_check_sides.kp (kb_check_sides_1 tx) (takes_of rfl rfl rfl rfl) (qc_pos (qa_cons (qe_var 0) qa_nil))))
  (qss_cons (qs_ret (qe_and (qe_f (ok_can_face tx) (hr.mono (by decide)) hg tx.m_can_face tx.fu_can_face.kp (kb_can_face_2 tx) (takes_of rfl rfl rfl rfl) (qc_pos (qa_cons (qe_sl tx.scls_Sides tx.sl_near (qe_var 0)) (qa_cons (qe_sl tx.scls_Sides tx.sl_far (qe_var 0)) qa_nil)))) (qe_one (qe_f (ok_is_single tx) (hr.mono (by decide)) hg tx.m_is_single tx.fu_is_single.kp (kb_is_single_1 tx) (takes_of rfl rfl rfl rfl) (qc_pos (qa_cons (qe_f (ok_set_around tx) (hr.mono (by decide)) hg tx.m_set_around tx.fu_set_around.kp (kb_set_around_3 tx) (takes_of rfl rfl rfl rfl) (qc_pos (qa_cons (qe_sl tx.scls_Sides tx.sl_near (qe_var 0)) (qa_cons (qe_sl tx.scls_Sides tx.sl_far (qe_var 0)) (qa_cons (qe_lst qa_nil) qa_nil))))) qa_nil))))))
  qss_nil))) (pure_sides_one (txOf A K))
theorem ok_check_facing (tx : TxB A K mg base) : FnG P w K mg base 1 A.f_check_facing A.d_check_facing (["sides"] : List Str) (spD (txOf A K) 1 sp_check_facing) := fnG_none (T := txOf A K)
theorem ok_fitting_row (tx : TxB A K mg base) : FnG P w K mg base 1 A.f_fitting_row A.d_fitting_row (["kinds"] : List Str) (spD (txOf A K) 1 sp_fitting_row) := fnG_none (T := txOf A K)
theorem sc_alone_row : FnScope (["sides"] : List Str) (["sides"] : List Str) (defScope st_alone_row) := ⟨rfl, rfl, rfl, by decide +kernel, rfl, by decide +kernel, by decide +kernel⟩
theorem ok_alone_row (tx : TxB A K mg base) : FnG P w K mg base 3 A.f_alone_row A.d_alone_row (["sides"] : List Str) (spD (txOf A K) 1 sp_alone_row) :=
  fnG_ok (T := txOf A K) (k := 2) (r_alone_row (txOf A K)) tx.fu_alone_row sc_alone_row (fun cdv Ar outer s H E hr hg =>
  (qss_cons (qs_expr (qe_f (ok_check_sides tx) (hr.mono (by decide)) hg tx.m_check_sides tx.fu_check_sides.kp (kb_check_sides_1 tx) (takes_of rfl rfl rfl rfl) (qc_pos (qa_cons (qe_var 0) qa_nil))))
  (qss_cons (qs_expr (qe_f (ok_check_facing tx) (hr.mono (by decide)) hg tx.m_check_facing tx.fu_check_facing.kp (kb_check_facing_1 tx) (takes_of rfl rfl rfl rfl) (qc_pos (qa_cons (qe_var 0) qa_nil))))
  (qss_cons (qs_ret (qe_f (ok_fitting_row tx) (hr.mono (by decide)) hg tx.m_fitting_row tx.fu_fitting_row.kp (kb_fitting_row_1 tx) (takes_of rfl rfl rfl rfl) (qc_pos (qa_cons (qe_f (ok_set_around tx) (hr.mono (by decide)) hg tx.m_set_around tx.fu_set_around.kp (kb_set_around_3 tx) (takes_of rfl rfl rfl rfl) (qc_pos (qa_cons (qe_sl tx.scls_Sides tx.sl_near (qe_var 0)) (qa_cons (qe_sl tx.scls_Sides tx.sl_far (qe_var 0)) (qa_cons (qe_lst qa_nil) qa_nil))))) qa_nil))))
  qss_nil)))) (pure_alone_row (txOf A K))
theorem ok_check_row (tx : TxB A K mg base) : FnG P w K mg base 1 A.f_check_row A.d_check_row (["value"] : List Str) (spD (txOf A K) 1 sp_check_row) := fnG_none (T := txOf A K)
theorem ok_check_can (tx : TxB A K mg base) : FnG P w K mg base 1 A.f_check_can A.d_check_can (["row"] : List Str) (spD (txOf A K) 1 sp_check_can) := fnG_none (T := txOf A K)
theorem ok_Row_kinds (tx : TxB A K mg base) : FnG P w K mg base 1 A.f_Row_kinds A.d_Row_kinds (["self"] : List Str) (spD (txOf A K) 1 sp_Row_kinds) := fnG_none (T := txOf A K)
theorem sc_around : FnScope (["sides", "row"] : List Str) (["sides", "row"] : List Str) (defScope st_around) := ⟨rfl, rfl, rfl, by decide +kernel, rfl, by decide +kernel, by decide +kernel⟩
theorem ok_around (tx : TxB A K mg base) : FnG P w K mg base 3 A.f_around A.d_around (["sides", "row"] : List Str) (spD (txOf A K) 2 sp_around) :=
  fnG_ok (T := txOf A K) (k := 2) (r_around (txOf A K)) tx.fu_around sc_around (fun cdv Ar outer s H E hr hg =>
  (qss_cons (qs_expr (qe_f (ok_check_sides tx) (hr.mono (by decide)) hg tx.m_check_sides tx.fu_check_sides.kp (kb_check_sides_1 tx) (takes_of rfl rfl rfl rfl) (qc_pos (qa_cons (qe_var 0) qa_nil))))
  (qss_cons (qs_expr (qe_f (ok_check_row tx) (hr.mono (by decide)) hg tx.m_check_row tx.fu_check_row.kp (kb_check_row_1 tx) (takes_of rfl rfl rfl rfl) (qc_pos (qa_cons (qe_var 1) qa_nil))))
  (qss_cons (qs_expr (qe_f (ok_check_facing tx) (hr.mono (by decide)) hg tx.m_check_facing tx.fu_check_facing.kp (kb_check_facing_1 tx) (takes_of rfl rfl rfl rfl) (qc_pos (qa_cons (qe_var 0) qa_nil))))
  (qss_cons (qs_expr (qe_f (ok_check_can tx) (hr.mono (by decide)) hg tx.m_check_can tx.fu_check_can.kp (kb_check_can_1 tx) (takes_of rfl rfl rfl rfl) (qc_pos (qa_cons (qe_var 1) qa_nil))))
  (qss_cons (qs_ret (qe_f (ok_fitting_row tx) (hr.mono (by decide)) hg tx.m_fitting_row tx.fu_fitting_row.kp (kb_fitting_row_1 tx) (takes_of rfl rfl rfl rfl) (qc_pos (qa_cons (qe_f (ok_set_around tx) (hr.mono (by decide)) hg tx.m_set_around tx.fu_set_around.kp (kb_set_around_3 tx) (takes_of rfl rfl rfl rfl) (qc_pos (qa_cons (qe_sl tx.scls_Sides tx.sl_near (qe_var 0)) (qa_cons (qe_sl tx.scls_Sides tx.sl_far (qe_var 0)) (qa_cons (qe_prop tx.scls_Row tx.pr_Row_kinds.1 tx.pr_Row_kinds.2.1 tx.pr_Row_kinds.2.2.1 tx.pr_Row_kinds.2.2.2 (ok_Row_kinds tx) (hr.mono (by decide)) hg (kb_Row_kinds_1 tx) (qe_var 1)) qa_nil))))) qa_nil))))
  qss_nil)))))) (pure_around (txOf A K))
theorem sc__law_right : FnScope (["well", "again", "near", "far", "due", "told", "none", "mine", "mate"] : List Str) (["well"] : List Str) (defScope st__law_right) := ⟨rfl, rfl, rfl, by decide +kernel, rfl, by decide +kernel, by decide +kernel⟩
theorem ok__law_right (tx : TxB A K mg base) : FnG P w K mg base 10 A.f__law_right A.d__law_right (["well"] : List Str) (spD (txOf A K) 1 sp__law_right) :=
  fnG_okC (T := txOf A K) (k := 9) (r__law_right (txOf A K)) tx.fu__law_right tx.lc__law_right sc__law_right (fun Ar outer s H E hr hg =>
  (qss_cons (qs_for (passes_of rfl) rfl (qi_range1 tx.z_range (qb_cons qe_int qb_nil)) (qg_name 1 sc__law_right.nd)
  (qss_cons (qs_asg (qe_tup (qa_cons (qe_f (ok__law_some tx) (hr.mono (by decide)) hg tx.m__law_some tx.fu__law_some.kp (kb__law_some_1 tx) (takes_of rfl rfl rfl rfl) (qc_pos (qa_cons (qe_var 0) qa_nil))) (qa_cons (qe_f (ok__law_some tx) (hr.mono (by decide)) hg tx.m__law_some tx.fu__law_some.kp (kb__law_some_1 tx) (takes_of rfl rfl rfl rfl) (qc_pos (qa_cons (qe_var 0) qa_nil))) qa_nil))) (qg_tup rfl (qgs_cons (qg_name 2 sc__law_right.nd) (qgs_cons (qg_name 3 sc__law_right.nd) qgs_nil))))
  (qss_cons (qs_set 4 sc__law_right.nd (qe_if (qt_cmp (opd_ne hr) (qe_f (ok__law_wrong tx) (hr.mono (by decide)) hg tx.m__law_wrong tx.fu__law_wrong.kp (kb__law_wrong_1 tx) (takes_of rfl rfl rfl rfl) (qc_pos (qa_cons (qe_var 2) qa_nil))) qe_str) (qe_lst (qa_cons qe_str (qa_cons (qe_f (ok__law_wrong tx) (hr.mono (by decide)) hg tx.m__law_wrong tx.fu__law_wrong.kp (kb__law_wrong_1 tx) (takes_of rfl rfl rfl rfl) (qc_pos (qa_cons (qe_var 2) qa_nil))) qa_nil))) (qe_lst (qa_cons qe_str (qa_cons (qe_f (ok__law_wrong tx) (hr.mono (by decide)) hg tx.m__law_wrong tx.fu__law_wrong.kp (kb__law_wrong_1 tx) (takes_of rfl rfl rfl rfl) (qc_pos (qa_cons (qe_var 3) qa_nil))) qa_nil)))))
  (qss_cons (qs_set 5 sc__law_right.nd (qe_lst (qa_cons (qe_cau (k := 7) (fz := [2, 3]) (xm := xmOf [20, 23, 28, 29, 30, 32, 33, 38, 39, 40]) (i := 1) (fm := (fmC "told")) (fd := (fdC "told")) (ts := s__law_caught (txOf A K)) (rr := e__law_caught (txOf A K)) tx.fu__law_caught (fun cdg => cauG (ks := 3) rfl (hr.mono (by decide)) hg sc__law_caught.nd (fun _ => rfl) rfl rfl rfl tx.m_WrongValue rfl tx.m_WrongName rfl tx.m_NotPossible tx.hx_err (fun s H pn xe => form_c) (fun s H b oe n p pn hot hr hg => su__law_caught tx hot hr hg) (fun s H hr hg => rr__law_caught tx hr hg)) rfl fm_c (pure__law_caught (txOf A K)) tx.m__law_caught (bt__law_caught tx) sc__law_caught rfl (.inl rfl) (tx.tb _ (List.mem_of_getElem? (i := 0) rfl)) rfl (List.mem_of_getElem? (i := 0) rfl) tx.hu__law_right (hr.mono (by decide)) hg tx.hx_ans (LamX.lamS_by (show LamX.lamSB (defScope st__law_right) _ = true from by decide +kernel)) (fun _ _ _ _ _ _ _ hr hg => (qe_mk tx.mk_Sides (ok_Sides___init__ tx) (hr.mono (by decide)) hg tx.m_Sides (kb_Sides___init___3 tx) (takes_of rfl rfl rfl rfl) (qc_pos (qa_cons (qe_var 2) (qa_cons (qe_var 3) qa_nil)))))) qa_nil)))
  (qss_cons (qs_wr 5 PySem.F.slot_list_append PySem.F.type_list_append mtd_app (qa_cons (qe_cau (k := 7) (fz := [2, 3]) (xm := xmOf [20, 23, 28, 29, 30, 32, 33, 38, 39, 40]) (i := 1) (fm := (fmC "told")) (fd := (fdC "told")) (ts := s__law_caught (txOf A K)) (rr := e__law_caught (txOf A K)) tx.fu__law_caught (fun cdg => cauG (ks := 3) rfl (hr.mono (by decide)) hg sc__law_caught.nd (fun _ => rfl) rfl rfl rfl tx.m_WrongValue rfl tx.m_WrongName rfl tx.m_NotPossible tx.hx_err (fun s H pn xe => form_c) (fun s H b oe n p pn hot hr hg => su__law_caught tx hot hr hg) (fun s H hr hg => rr__law_caught tx hr hg)) rfl fm_c (pure__law_caught (txOf A K)) tx.m__law_caught (bt__law_caught tx) sc__law_caught rfl (.inl rfl) (tx.tb _ (List.mem_of_getElem? (i := 0) rfl)) rfl (List.mem_of_getElem? (i := 0) rfl) tx.hu__law_right (hr.mono (by decide)) hg tx.hx_ans (LamX.lamS_by (show LamX.lamSB (defScope st__law_right) _ = true from by decide +kernel)) (fun _ _ _ _ _ _ _ hr hg => (qe_mkP tx.mk_Sides (ok_Sides___init__ tx) (hr.mono (by decide)) hg tx.m_Sides (kbp_Sides___init___outer_inner tx) (takes_of rfl rfl rfl rfl) (qc_kw0 (qk_cons (qe_var 3) (qk_cons (qe_var 2) qk_nil)))))) qa_nil))
  (qss_cons (qs_if (qw_and (qt_cmp (opd_ne hr) (qe_ix (opd_ixA hr) (qe_var 4) qe_int) qe_str) (qw_and1 (qt_cmp (opd_ne hr) (qe_var 5) (qe_lst (qa_cons (qe_var 4) (qa_cons (qe_var 4) qa_nil)))))).pt (qss_cons (qs_ret qe_bl)
  qss_nil) qss_nil)
  (qss_cons (qs_if (qt_cmp (opd_eq hr) (qe_ix (opd_ixA hr) (qe_var 4) qe_int) qe_str) (qss_cons (qs_par2 7 8 rfl sc__law_right.nd (qt_cons (qe_ix (opd_ixA hr) (qe_ix (opd_ixA hr) (qe_var 5) qe_int) qe_int) (qt_cons (qe_ix (opd_ixA hr) (qe_ix (opd_ixA hr) (qe_var 5) qe_int) qe_int) qt_nil)))
  (qss_cons (qs_if (qw_or (qt_cmp (opd_ne hr) (qe_ix (opd_ixA hr) (qe_ix (opd_ixA hr) (qe_var 5) qe_int) qe_int) qe_str) (qw_or (qt_cmpO (oq_ne (cn := 0) (ok_Row___eq__ tx) (hr.mono (by decide)) hg (kb_Row___eq___2 tx) tx.me_Row___eq__.1 tx.me_Row___eq__.2 tx.ne_Row.1 tx.ne_Row.2 (oq_ne (cn := 1) (ok_Sides___eq__ tx) (hr.mono (by decide)) hg (kb_Sides___eq___2 tx) tx.me_Sides___eq__.1 tx.me_Sides___eq__.2 tx.ne_Sides.1 tx.ne_Sides.2 (oq_none (opd_ne hr)))) (qe_var 7) (qe_var 8)) (qw_or (qt_cmp (opd_ne hr) (qe_lst (qa_cons (qe_prop tx.scls_Sides tx.pr_Sides_inner.1 tx.pr_Sides_inner.2.1 tx.pr_Sides_inner.2.2.1 tx.pr_Sides_inner.2.2.2 (ok_Sides_inner tx) (hr.mono (by decide)) hg (kb_Sides_inner_1 tx) (qe_var 7)) (qa_cons (qe_prop tx.scls_Sides tx.pr_Sides_outer.1 tx.pr_Sides_outer.2.1 tx.pr_Sides_outer.2.2.1 tx.pr_Sides_outer.2.2.2 (ok_Sides_outer tx) (hr.mono (by decide)) hg (kb_Sides_outer_1 tx) (qe_var 7)) qa_nil))) (qe_lst (qa_cons (qe_var 2) (qa_cons (qe_var 3) qa_nil)))) (qw_or1 (qt_cmpO (oq_eq (cn := 0) (ok_Row___eq__ tx) (hr.mono (by decide)) hg (kb_Row___eq___2 tx) tx.me_Row___eq__.1 tx.me_Row___eq__.2 (oq_eq (cn := 1) (ok_Sides___eq__ tx) (hr.mono (by decide)) hg (kb_Sides___eq___2 tx) tx.me_Sides___eq__.1 tx.me_Sides___eq__.2 (oq_none (opd_eq hr)))) (qe_var 7) (qe_var 2)))))).pt (qss_cons (qs_ret qe_bl)
  qss_nil) qss_nil)
  (qss_cons (qs_if (qt_cmp (opd_ne hr) (qe_oneB (co_repr (cn := 0) (ok_Row___repr__ tx) (hr.mono (by decide)) hg (kb_Row___repr___1 tx) tx.me_Row___repr__.1 tx.me_Row___repr__.2 (co_repr (cn := 1) (ok_Sides___repr__ tx) (hr.mono (by decide)) hg (kb_Sides___repr___1 tx) tx.me_Sides___repr__.1 tx.me_Sides___repr__.2 (co_none (cd_repr hr hg)))) tx.z_repr (by decide +kernel) (qe_var 7)) (qe_op opd_add (qe_op opd_add (qe_op opd_add (qe_op opd_add qe_str (qe_callT (cd_str) tx.z_str (by decide +kernel) (qb_cons (qe_callB (cd_len) tx.z_len (by decide +kernel) (qb_cons (qe_var 2) qb_nil)) qb_nil))) qe_str) (qe_callT (cd_str) tx.z_str (by decide +kernel) (qb_cons (qe_callB (cd_len) tx.z_len (by decide +kernel) (qb_cons (qe_var 3) qb_nil)) qb_nil))) qe_str)) (qss_cons (qs_ret qe_bl)
  qss_nil) qss_nil)
  (qss_cons (qs_if (qt_cmp (opd_ne hr) (qe_cmpO (oq_eq (cn := 0) (ok_Row___eq__ tx) (hr.mono (by decide)) hg (kb_Row___eq___2 tx) tx.me_Row___eq__.1 tx.me_Row___eq__.2 (oq_eq (cn := 1) (ok_Sides___eq__ tx) (hr.mono (by decide)) hg (kb_Sides___eq___2 tx) tx.me_Sides___eq__.1 tx.me_Sides___eq__.2 (oq_none (opd_eq hr)))) (qe_var 7) (qe_mk tx.mk_Sides (ok_Sides___init__ tx) (hr.mono (by decide)) hg tx.m_Sides (kb_Sides___init___3 tx) (takes_of rfl rfl rfl rfl) (qc_pos (qa_cons (qe_var 3) (qa_cons (qe_var 2) qa_nil))))) (qe_cmp (opd_eq hr) (qe_var 2) (qe_var 3))) (qss_cons (qs_ret qe_bl)
  qss_nil) qss_nil)
  qss_nil)))) qss_nil)
  (qss_cons (qs_set 6 sc__law_right.nd (qe_f (ok__law_pick tx) (hr.mono (by decide)) hg tx.m__law_pick tx.fu__law_pick.kp (kb__law_pick_2 tx) (takes_of rfl rfl rfl rfl) (qc_pos (qa_cons (qe_var 0) (qa_cons (qe_lst (qa_cons qe_non (qa_cons qe_str (qa_cons qe_int (qa_cons (qe_tup qa_nil) (qa_cons (qe_lst (qa_cons (qe_var 2) qa_nil)) (qa_cons (qe_mk tx.mk_Row (ok_Row___init__ tx) (hr.mono (by decide)) hg tx.m_Row (kb_Row___init___2 tx) (takes_of rfl rfl rfl rfl) (qc_pos (qa_cons (qe_tup (qa_cons (qe_tup (qa_cons qe_int (qa_cons qe_int qa_nil))) qa_nil)) qa_nil))) (qa_cons qe_bl (qa_cons qe_dnew (qa_cons (qe_tup (qa_cons (qe_tup (qa_cons qe_int (qa_cons qe_int qa_nil))) qa_nil)) qa_nil)))))))))) qa_nil)))))
  (qss_cons (qs_set 5 sc__law_right.nd (qe_lst (qa_cons (qe_cau (k := 3) (fz := [6]) (xm := xmOf [20, 23, 28, 29, 30, 32, 33, 38, 39, 40]) (i := 1) (fm := (fmC "told")) (fd := (fdC "told")) (ts := s__law_caught (txOf A K)) (rr := e__law_caught (txOf A K)) tx.fu__law_caught (fun cdg => cauG (ks := 3) rfl (hr.mono (by decide)) hg sc__law_caught.nd (fun _ => rfl) rfl rfl rfl tx.m_WrongValue rfl tx.m_WrongName rfl tx.m_NotPossible tx.hx_err (fun s H pn xe => form_c) (fun s H b oe n p pn hot hr hg => su__law_caught tx hot hr hg) (fun s H hr hg => rr__law_caught tx hr hg)) rfl fm_c (pure__law_caught (txOf A K)) tx.m__law_caught (bt__law_caught tx) sc__law_caught rfl (.inl rfl) (tx.tb _ (List.mem_of_getElem? (i := 0) rfl)) rfl (List.mem_of_getElem? (i := 0) rfl) tx.hu__law_right (hr.mono (by decide)) hg tx.hx_ans (LamX.lamS_by (show LamX.lamSB (defScope st__law_right) _ = true from by decide +kernel)) (fun _ _ _ _ _ _ _ hr hg => (qe_f (ok_sides_can_be tx) (hr.mono (by decide)) hg tx.m_sides_can_be tx.fu_sides_can_be.kp (kb_sides_can_be_1 tx) (takes_of rfl rfl rfl rfl) (qc_pos (qa_cons (qe_var 6) qa_nil))))) qa_nil)))
  (qss_cons (qs_wr 5 PySem.F.slot_list_append PySem.F.type_list_append mtd_app (qa_cons (qe_cau (k := 3) (fz := [6]) (xm := xmOf [20, 23, 28, 29, 30, 32, 33, 38, 39, 40]) (i := 1) (fm := (fmC "told")) (fd := (fdC "told")) (ts := s__law_caught (txOf A K)) (rr := e__law_caught (txOf A K)) tx.fu__law_caught (fun cdg => cauG (ks := 3) rfl (hr.mono (by decide)) hg sc__law_caught.nd (fun _ => rfl) rfl rfl rfl tx.m_WrongValue rfl tx.m_WrongName rfl tx.m_NotPossible tx.hx_err (fun s H pn xe => form_c) (fun s H b oe n p pn hot hr hg => su__law_caught tx hot hr hg) (fun s H hr hg => rr__law_caught tx hr hg)) rfl fm_c (pure__law_caught (txOf A K)) tx.m__law_caught (bt__law_caught tx) sc__law_caught rfl (.inl rfl) (tx.tb _ (List.mem_of_getElem? (i := 0) rfl)) rfl (List.mem_of_getElem? (i := 0) rfl) tx.hu__law_right (hr.mono (by decide)) hg tx.hx_ans (LamX.lamS_by (show LamX.lamSB (defScope st__law_right) _ = true from by decide +kernel)) (fun _ _ _ _ _ _ _ hr hg => (qe_f (ok_sides_one tx) (hr.mono (by decide)) hg tx.m_sides_one tx.fu_sides_one.kp (kb_sides_one_0_sides tx) (takes_of rfl rfl rfl rfl) (qc_kw0 (qk_cons (qe_var 6) qk_nil))))) qa_nil))
  (qss_cons (qs_wr 5 PySem.F.slot_list_append PySem.F.type_list_append mtd_app (qa_cons (qe_cau (k := 3) (fz := [6]) (xm := xmOf [20, 23, 28, 29, 30, 32, 33, 38, 39, 40]) (i := 1) (fm := (fmC "told")) (fd := (fdC "told")) (ts := s__law_caught (txOf A K)) (rr := e__law_caught (txOf A K)) tx.fu__law_caught (fun cdg => cauG (ks := 3) rfl (hr.mono (by decide)) hg sc__law_caught.nd (fun _ => rfl) rfl rfl rfl tx.m_WrongValue rfl tx.m_WrongName rfl tx.m_NotPossible tx.hx_err (fun s H pn xe => form_c) (fun s H b oe n p pn hot hr hg => su__law_caught tx hot hr hg) (fun s H hr hg => rr__law_caught tx hr hg)) rfl fm_c (pure__law_caught (txOf A K)) tx.m__law_caught (bt__law_caught tx) sc__law_caught rfl (.inl rfl) (tx.tb _ (List.mem_of_getElem? (i := 0) rfl)) rfl (List.mem_of_getElem? (i := 0) rfl) tx.hu__law_right (hr.mono (by decide)) hg tx.hx_ans (LamX.lamS_by (show LamX.lamSB (defScope st__law_right) _ = true from by decide +kernel)) (fun _ _ _ _ _ _ _ hr hg => (qe_f (ok_alone_row tx) (hr.mono (by decide)) hg tx.m_alone_row tx.fu_alone_row.kp (kb_alone_row_1 tx) (takes_of rfl rfl rfl rfl) (qc_pos (qa_cons (qe_var 6) qa_nil))))) qa_nil))
  (qss_cons (qs_wr 5 PySem.F.slot_list_append PySem.F.type_list_append mtd_app (qa_cons (qe_cau (k := 3) (fz := [6]) (xm := xmOf [20, 23, 28, 29, 30, 32, 33, 38, 39, 40]) (i := 1) (fm := (fmC "told")) (fd := (fdC "told")) (ts := s__law_caught (txOf A K)) (rr := e__law_caught (txOf A K)) tx.fu__law_caught (fun cdg => cauG (ks := 3) rfl (hr.mono (by decide)) hg sc__law_caught.nd (fun _ => rfl) rfl rfl rfl tx.m_WrongValue rfl tx.m_WrongName rfl tx.m_NotPossible tx.hx_err (fun s H pn xe => form_c) (fun s H b oe n p pn hot hr hg => su__law_caught tx hot hr hg) (fun s H hr hg => rr__law_caught tx hr hg)) rfl fm_c (pure__law_caught (txOf A K)) tx.m__law_caught (bt__law_caught tx) sc__law_caught rfl (.inl rfl) (tx.tb _ (List.mem_of_getElem? (i := 0) rfl)) rfl (List.mem_of_getElem? (i := 0) rfl) tx.hu__law_right (hr.mono (by decide)) hg tx.hx_ans (LamX.lamS_by (show LamX.lamSB (defScope st__law_right) _ = true from by decide +kernel)) (fun _ _ _ _ _ _ _ hr hg => (qe_f (ok_around tx) (hr.mono (by decide)) hg tx.m_around tx.fu_around.kp (kb_around_2 tx) (takes_of rfl rfl rfl rfl) (qc_pos (qa_cons (qe_var 6) (qa_cons (qe_var 6) qa_nil)))))) qa_nil))
  (qss_cons (qs_if (qt_cmp (opd_ne hr) (qe_var 5) (qe_op opd_mul (qe_lst (qa_cons (qe_lst (qa_cons qe_str (qa_cons (qe_oneB (co_repr (cn := 0) (ok_Row___repr__ tx) (hr.mono (by decide)) hg (kb_Row___repr___1 tx) tx.me_Row___repr__.1 tx.me_Row___repr__.2 (co_repr (cn := 1) (ok_Sides___repr__ tx) (hr.mono (by decide)) hg (kb_Sides___repr___1 tx) tx.me_Sides___repr__.1 tx.me_Sides___repr__.2 (co_none (cd_repr hr hg)))) tx.z_repr (by decide +kernel) (qe_var 6)) qa_nil))) qa_nil)) qe_int)) (qss_cons (qs_ret qe_bl)
  qss_nil) qss_nil)
  qss_nil)))))))))))))
  (qss_cons (qs_ret qe_bl)
  qss_nil))) (pure__law_right (txOf A K))
theorem sc__law_well : FnScope (["script", "spot", "state", "cell", "own"] : List Str) (["script", "spot"] : List Str) (defScope st__law_well) := ⟨rfl, rfl, rfl, by decide +kernel, rfl, by decide +kernel, by decide +kernel⟩
theorem ok__law_well (tx : TxB A K mg base) : FnG P w K mg base 2 A.f__law_well A.d__law_well (["script", "spot"] : List Str) (spD (txOf A K) 2 sp__law_well) :=
  fnG_ok (T := txOf A K) (k := 1) (r__law_well (txOf A K)) tx.fu__law_well sc__law_well (fun cdv Ar outer s H E hr hg =>
  (qss_cons (qs_set 2 sc__law_well.nd (qe_op opd_add qe_int (qe_op opd_mul qe_int (qe_var 1))))
  (qss_cons (qs_for (passes_of rfl) rfl (qi_any (qe_op opd_add (qe_slice (qe_var 0) qo_no (qo_so qe_int)) (qe_slice (qe_var 0) (qo_so (qe_var 1)) (qo_so (qe_op opd_add (qe_var 1) qe_int))))) (qg_name 3 sc__law_well.nd)
  (qss_cons (qs_set 2 sc__law_well.nd (qe_op opd_mod (qe_callT (cd_int) tx.z_int (by decide +kernel) (qb_cons (qe_op opd_add (qe_op opd_add (qe_op opd_mul (qe_var 2) qe_int) (qe_var 3)) qe_int) qb_nil)) qe_int))
  qss_nil))
  (qss_cons (qs_set 4 sc__law_well.nd (qe_if (qt_cmp opd_lt (qe_var 1) (qe_callB (cd_len) tx.z_len (by decide +kernel) (qb_cons (qe_var 0) qb_nil))) (qe_ix (opd_ixA hr) (qe_var 0) (qe_var 1)) qe_int))
  (qss_cons (qs_ret (qe_lst (qa_cons (qe_var 2) (qa_cons qe_int (qa_cons (qe_if (qt_cmp opd_ge (qe_callB (cd_abs) tx.z_abs (by decide +kernel) (qb_cons (qe_var 4) qb_nil)) (qe_op opd_pow qe_int qe_int)) (qe_callB (cd_abs) tx.z_abs (by decide +kernel) (qb_cons (qe_var 4) qb_nil)) qe_int) qa_nil)))))
  qss_nil))))) (pure__law_well (txOf A K))
theorem sc_law : FnScope (["script", "spot"] : List Str) (["script"] : List Str) (defScope st_law) := ⟨rfl, rfl, rfl, by decide +kernel, rfl, by decide +kernel, by decide +kernel⟩
theorem ok_law (tx : TxB A K mg base) : FnG P w K mg base 11 A.f_law A.d_law (["script"] : List Str) (spD (txOf A K) 1 sp_law) :=
  fnG_ok (T := txOf A K) (k := 10) (r_law (txOf A K)) tx.fu_law sc_law (fun cdv Ar outer s H E hr hg =>
  (qss_cons (qs_ret (qe_callB (cd_all rfl) tx.z_all (by decide +kernel) (qb_cons (qe_lc [("spot", 1)] [0] rfl sc_law.nd (qi_range1 tx.z_range (qb_cons (qe_callB (cd_max rfl) tx.z_max (by decide +kernel) (qb_cons qe_int (qb_cons (qe_callB (cd_min rfl) tx.z_min (by decide +kernel) (qb_cons (qe_callB (cd_len) tx.z_len (by decide +kernel) (qb_cons (qe_var 0) qb_nil)) (qb_cons qe_int qb_nil))) qb_nil))) qb_nil)) (blkOk_by (N := (["script", "spot"] : List Str)) (sc := defScope st_law) (by decide +kernel)) (by decide) (fun _ _ _ _ _ => (qg_name 1 sc_law.nd)) (fun _ _ _ _ _ => qts_nil) (fun _ _ _ _ _ => (qe_turn (ok__law_right tx) (hr.mono (by decide)) hg tx.m__law_right tx.fu__law_right.kp (kb__law_right_1 tx) (ok__law_well tx) (hr.mono (by decide)) tx.m__law_well tx.fu__law_well.kp (kb__law_well_2 tx) takes0 (qc_pos (qa_cons (qe_var 0) (qa_cons (qe_var 1) qa_nil)))))) qb_nil)))
  qss_nil)) (pure_law (txOf A K) rfl)
end
theorem all_mk {l : PySem.W.OpenLaw} {w : World} {K : Frag} {h : Heap} {mg : Str → Option Value} {fa C_Row C_Sides C_WrongValue C_WrongName C_NotPossible C_InvalidText C_InvalidNumber C_NotRow C_NotSides C_InvalidKinds C_InvalidInner C_InvalidOuter C_Cannot C_TooMany C_TooGreat f_InvalidText___init__ f_InvalidNumber___init__ f_NotRow___init__ f_NotSides___init__ f_InvalidKinds___init__ f_InvalidInner___init__ f_InvalidOuter___init__ f_Cannot___init__ f_TooMany___init__ f_TooGreat___init__ lc__law_right lp__law_right p_shape p_near p_far f__law_draw f__law_pick f__law_great f__law_some f__law_is_lot f__law_wrong f_Sides___repr__ f_Row___repr__ f__law_caught f_is_integer f_is_count f_is_kind f_wrong_kind f_Sides___init__ f_Sides___eq__ f_Row___eq__ f_Sides_outer p_Sides_outer f_Sides_inner p_Sides_inner f_Row___init__ f_check_sides f_can_face f_sides_can_be f_is_single f_set_around f_sides_one f_check_facing f_fitting_row f_alone_row f_check_row f_check_can f_Row_kinds p_Row_kinds f_around f__law_right f__law_well f_law : Addr} (X : K.In h) (G : h.Ns mainGlobals mg) (hfa : mg "law" = some (.ref fa))
    {tk_MOST_KINDS tk_MOST_DEGREE tk_MOST_COUNT : Tok}
    {oc_InvalidInner kV_InvalidInner dc_InvalidInner pm_InvalidInner cd_InvalidInner ct_InvalidInner oc_InvalidOuter kV_InvalidOuter dc_InvalidOuter pm_InvalidOuter cd_InvalidOuter ct_InvalidOuter oc_InvalidKinds kV_InvalidKinds dc_InvalidKinds pm_InvalidKinds cd_InvalidKinds ct_InvalidKinds oc_NotSides kV_NotSides dc_NotSides pm_NotSides cd_NotSides ct_NotSides vo__law_right oc__law_draw kV__law_draw dc__law_draw pm__law_draw cd__law_draw ct__law_draw oc__law_pick kV__law_pick dc__law_pick pm__law_pick cd__law_pick ct__law_pick oc__law_great kV__law_great dc__law_great pm__law_great cd__law_great ct__law_great oc__law_some kV__law_some dc__law_some pm__law_some cd__law_some ct__law_some oc__law_is_lot kV__law_is_lot dc__law_is_lot pm__law_is_lot cd__law_is_lot ct__law_is_lot oc__law_wrong kV__law_wrong dc__law_wrong pm__law_wrong cd__law_wrong ct__law_wrong oc_Sides___repr__ kV_Sides___repr__ dc_Sides___repr__ pm_Sides___repr__ cd_Sides___repr__ ct_Sides___repr__ oc_Row___repr__ kV_Row___repr__ dc_Row___repr__ pm_Row___repr__ cd_Row___repr__ ct_Row___repr__ oc__law_caught kV__law_caught dc__law_caught pm__law_caught cd__law_caught ct__law_caught oc_is_integer kV_is_integer dc_is_integer pm_is_integer cd_is_integer ct_is_integer oc_is_count kV_is_count dc_is_count pm_is_count cd_is_count ct_is_count oc_is_kind kV_is_kind dc_is_kind pm_is_kind cd_is_kind ct_is_kind oc_wrong_kind kV_wrong_kind dc_wrong_kind pm_wrong_kind cd_wrong_kind ct_wrong_kind oc_Sides___init__ kV_Sides___init__ dc_Sides___init__ pm_Sides___init__ cd_Sides___init__ ct_Sides___init__ oc_Sides___eq__ kV_Sides___eq__ dc_Sides___eq__ pm_Sides___eq__ cd_Sides___eq__ ct_Sides___eq__ oc_Row___eq__ kV_Row___eq__ dc_Row___eq__ pm_Row___eq__ cd_Row___eq__ ct_Row___eq__ oc_Sides_outer kV_Sides_outer dc_Sides_outer pm_Sides_outer cd_Sides_outer ct_Sides_outer oc_Sides_inner kV_Sides_inner dc_Sides_inner pm_Sides_inner cd_Sides_inner ct_Sides_inner oc_Row___init__ kV_Row___init__ dc_Row___init__ pm_Row___init__ cd_Row___init__ ct_Row___init__ oc_check_sides kV_check_sides dc_check_sides pm_check_sides cd_check_sides ct_check_sides oc_can_face kV_can_face dc_can_face pm_can_face cd_can_face ct_can_face oc_sides_can_be kV_sides_can_be dc_sides_can_be pm_sides_can_be cd_sides_can_be ct_sides_can_be oc_is_single kV_is_single dc_is_single pm_is_single cd_is_single ct_is_single oc_set_around kV_set_around dc_set_around pm_set_around cd_set_around ct_set_around oc_sides_one kV_sides_one dc_sides_one pm_sides_one cd_sides_one ct_sides_one oc_check_facing kV_check_facing dc_check_facing pm_check_facing cd_check_facing ct_check_facing oc_fitting_row kV_fitting_row dc_fitting_row pm_fitting_row cd_fitting_row ct_fitting_row oc_alone_row kV_alone_row dc_alone_row pm_alone_row cd_alone_row ct_alone_row oc_check_row kV_check_row dc_check_row pm_check_row cd_check_row ct_check_row oc_check_can kV_check_can dc_check_can pm_check_can cd_check_can ct_check_can oc_Row_kinds kV_Row_kinds dc_Row_kinds pm_Row_kinds cd_Row_kinds ct_Row_kinds oc_around kV_around dc_around pm_around cd_around ct_around oc__law_right kV__law_right dc__law_right pm__law_right ct__law_right oc__law_well kV__law_well dc__law_well pm__law_well cd__law_well ct__law_well oc_law kV_law dc_law pm_law cd_law ct_law : Value}
    {od_InvalidInner an_InvalidInner od_InvalidOuter an_InvalidOuter od_InvalidKinds an_InvalidKinds od_NotSides an_NotSides vd__law_right od__law_draw an__law_draw od__law_pick an__law_pick od__law_great an__law_great od__law_some an__law_some od__law_is_lot an__law_is_lot od__law_wrong an__law_wrong od_Sides___repr__ an_Sides___repr__ od_Row___repr__ an_Row___repr__ od__law_caught an__law_caught od_is_integer an_is_integer od_is_count an_is_count od_is_kind an_is_kind od_wrong_kind an_wrong_kind od_Sides___init__ an_Sides___init__ od_Sides___eq__ an_Sides___eq__ od_Row___eq__ an_Row___eq__ od_Sides_outer an_Sides_outer od_Sides_inner an_Sides_inner od_Row___init__ an_Row___init__ od_check_sides an_check_sides od_can_face an_can_face od_sides_can_be an_sides_can_be od_is_single an_is_single od_set_around an_set_around od_sides_one an_sides_one od_check_facing an_check_facing od_fitting_row an_fitting_row od_alone_row an_alone_row od_check_row an_check_row od_check_can an_check_can od_Row_kinds an_Row_kinds od_around an_around od__law_right an__law_right od__law_well an__law_well od_law an_law : Option Addr}
    {os_InvalidInner os_InvalidOuter os_InvalidKinds os_NotSides vl__law_right os__law_draw os__law_pick os__law_great os__law_some os__law_is_lot os__law_wrong os_Sides___repr__ os_Row___repr__ os__law_caught os_is_integer os_is_count os_is_kind os_wrong_kind os_Sides___init__ os_Sides___eq__ os_Row___eq__ os_Sides_outer os_Sides_inner os_Row___init__ os_check_sides os_can_face os_sides_can_be os_is_single os_set_around os_sides_one os_check_facing os_fitting_row os_alone_row os_check_row os_check_can os_Row_kinds os_around os__law_right os__law_well os_law : Array (Option Value)}
    {rs_Sides_outer rs_Sides_inner rs_Row_kinds : List Value}
    {vv__law_right : Array Value}
    (m_law : nsIn K mainGlobals "law" = some (some (.ref f_law)))
    (m_Row : nsIn K mainGlobals "Row" = some (some (.ref C_Row)))
    (m_Sides : nsIn K mainGlobals "Sides" = some (some (.ref C_Sides)))
    (m__law_draw : nsIn K mainGlobals "_law_draw" = some (some (.ref f__law_draw)))
    (m__law_pick : nsIn K mainGlobals "_law_pick" = some (some (.ref f__law_pick)))
    (m__law_great : nsIn K mainGlobals "_law_great" = some (some (.ref f__law_great)))
    (m__law_some : nsIn K mainGlobals "_law_some" = some (some (.ref f__law_some)))
    (m__law_is_lot : nsIn K mainGlobals "_law_is_lot" = some (some (.ref f__law_is_lot)))
    (m__law_wrong : nsIn K mainGlobals "_law_wrong" = some (some (.ref f__law_wrong)))
    (m_WrongValue : nsIn K mainGlobals "WrongValue" = some (some (.ref C_WrongValue)))
    (m_WrongName : nsIn K mainGlobals "WrongName" = some (some (.ref C_WrongName)))
    (m_NotPossible : nsIn K mainGlobals "NotPossible" = some (some (.ref C_NotPossible)))
    (m__law_caught : nsIn K mainGlobals "_law_caught" = some (some (.ref f__law_caught)))
    (m_NotSides : nsIn K mainGlobals "NotSides" = some (some (.ref C_NotSides)))
    (m_InvalidOuter : nsIn K mainGlobals "InvalidOuter" = some (some (.ref C_InvalidOuter)))
    (m_InvalidInner : nsIn K mainGlobals "InvalidInner" = some (some (.ref C_InvalidInner)))
    (m_is_integer : nsIn K mainGlobals "is_integer" = some (some (.ref f_is_integer)))
    (m_is_count : nsIn K mainGlobals "is_count" = some (some (.ref f_is_count)))
    (m_is_kind : nsIn K mainGlobals "is_kind" = some (some (.ref f_is_kind)))
    (m_wrong_kind : nsIn K mainGlobals "wrong_kind" = some (some (.ref f_wrong_kind)))
    (m_InvalidKinds : nsIn K mainGlobals "InvalidKinds" = some (some (.ref C_InvalidKinds)))
    (m_check_sides : nsIn K mainGlobals "check_sides" = some (some (.ref f_check_sides)))
    (m_can_face : nsIn K mainGlobals "can_face" = some (some (.ref f_can_face)))
    (m_sides_can_be : nsIn K mainGlobals "sides_can_be" = some (some (.ref f_sides_can_be)))
    (m_is_single : nsIn K mainGlobals "is_single" = some (some (.ref f_is_single)))
    (m_set_around : nsIn K mainGlobals "set_around" = some (some (.ref f_set_around)))
    (m_sides_one : nsIn K mainGlobals "sides_one" = some (some (.ref f_sides_one)))
    (m_check_facing : nsIn K mainGlobals "check_facing" = some (some (.ref f_check_facing)))
    (m_fitting_row : nsIn K mainGlobals "fitting_row" = some (some (.ref f_fitting_row)))
    (m_alone_row : nsIn K mainGlobals "alone_row" = some (some (.ref f_alone_row)))
    (m_check_row : nsIn K mainGlobals "check_row" = some (some (.ref f_check_row)))
    (m_check_can : nsIn K mainGlobals "check_can" = some (some (.ref f_check_can)))
    (m_around : nsIn K mainGlobals "around" = some (some (.ref f_around)))
    (m__law_right : nsIn K mainGlobals "_law_right" = some (some (.ref f__law_right)))
    (m__law_well : nsIn K mainGlobals "_law_well" = some (some (.ref f__law_well)))
    (m_InvalidText : nsIn K mainGlobals "InvalidText" = some (some (.ref C_InvalidText)))
    (m_InvalidNumber : nsIn K mainGlobals "InvalidNumber" = some (some (.ref C_InvalidNumber)))
    (m_NotRow : nsIn K mainGlobals "NotRow" = some (some (.ref C_NotRow)))
    (m_Cannot : nsIn K mainGlobals "Cannot" = some (some (.ref C_Cannot)))
    (m_TooMany : nsIn K mainGlobals "TooMany" = some (some (.ref C_TooMany)))
    (m_TooGreat : nsIn K mainGlobals "TooGreat" = some (some (.ref C_TooGreat)))
    (pg_Row : plainGet K C_Row Str.empty = true)
    (ic_Row : isClsIn K C_Row = true)
    (po_Row : plainOver K C_Row = true)
    (sa_Row : findIn K (.ref C_Row) "__setattr__" = some (some (.builtin "object.__setattr__")))
    (pg_Sides : plainGet K C_Sides Str.empty = true)
    (ic_Sides : isClsIn K C_Sides = true)
    (po_Sides : plainOver K C_Sides = true)
    (sa_Sides : findIn K (.ref C_Sides) "__setattr__" = some (some (.builtin "object.__setattr__")))
    (z_all : nsIn K mainGlobals "all" = some (none))
    (z_range : nsIn K mainGlobals "range" = some (none))
    (z_max : nsIn K mainGlobals "max" = some (none))
    (z_min : nsIn K mainGlobals "min" = some (none))
    (z_len : nsIn K mainGlobals "len" = some (none))
    (z_int : nsIn K mainGlobals "int" = some (none))
    (z_list : nsIn K mainGlobals "list" = some (none))
    (z_tuple : nsIn K mainGlobals "tuple" = some (none))
    (z_isinstance : nsIn K mainGlobals "isinstance" = some (none))
    (z_bool : nsIn K mainGlobals "bool" = some (none))
    (z_str : nsIn K mainGlobals "str" = some (none))
    (ehd_TooGreat : hasDictIn K C_TooGreat = true)
    (esa_TooGreat : findIn K (.ref C_TooGreat) "__setattr__" = some (some (.builtin "object.__setattr__")))
    (ega_TooGreat : findIn K (.ref C_TooGreat) "__getattribute__" = some (some (.builtin "BaseException.__getattribute__")))
    (egg_TooGreat : findIn K (.ref C_TooGreat) "__getattr__" = some none)
    (eno_TooGreat : findIn K (.ref C_TooGreat) "given" = some none)
    (eex_TooGreat : subIn K (.ref C_TooGreat) (.type "BaseException") = some true)
    (ety_TooGreat : typeIn K (.ref C_TooGreat) = some (.type "type"))
    (bex_WrongValue : subIn K (.ref C_WrongValue) (.type "BaseException") = some true)
    (bhd_WrongValue : hasDictIn K C_WrongValue = true)
    (bty_WrongValue : typeIn K (.ref C_WrongValue) = some (.type "type"))
    (bsu_TooGreat_WrongValue : subIn K (.ref C_TooGreat) (.ref C_WrongValue) = some false)
    (bex_WrongName : subIn K (.ref C_WrongName) (.type "BaseException") = some true)
    (bhd_WrongName : hasDictIn K C_WrongName = true)
    (bty_WrongName : typeIn K (.ref C_WrongName) = some (.type "type"))
    (bsu_TooGreat_WrongName : subIn K (.ref C_TooGreat) (.ref C_WrongName) = some false)
    (bex_NotPossible : subIn K (.ref C_NotPossible) (.type "BaseException") = some true)
    (bhd_NotPossible : hasDictIn K C_NotPossible = true)
    (bty_NotPossible : typeIn K (.ref C_NotPossible) = some (.type "type"))
    (bsu_TooGreat_NotPossible : subIn K (.ref C_TooGreat) (.ref C_NotPossible) = some true)
    (ehd_TooMany : hasDictIn K C_TooMany = true)
    (esa_TooMany : findIn K (.ref C_TooMany) "__setattr__" = some (some (.builtin "object.__setattr__")))
    (ega_TooMany : findIn K (.ref C_TooMany) "__getattribute__" = some (some (.builtin "BaseException.__getattribute__")))
    (egg_TooMany : findIn K (.ref C_TooMany) "__getattr__" = some none)
    (eno_TooMany : findIn K (.ref C_TooMany) "given" = some none)
    (eex_TooMany : subIn K (.ref C_TooMany) (.type "BaseException") = some true)
    (ety_TooMany : typeIn K (.ref C_TooMany) = some (.type "type"))
    (bsu_TooMany_WrongValue : subIn K (.ref C_TooMany) (.ref C_WrongValue) = some false)
    (bsu_TooMany_WrongName : subIn K (.ref C_TooMany) (.ref C_WrongName) = some false)
    (bsu_TooMany_NotPossible : subIn K (.ref C_TooMany) (.ref C_NotPossible) = some true)
    (ehd_Cannot : hasDictIn K C_Cannot = true)
    (esa_Cannot : findIn K (.ref C_Cannot) "__setattr__" = some (some (.builtin "object.__setattr__")))
    (ega_Cannot : findIn K (.ref C_Cannot) "__getattribute__" = some (some (.builtin "BaseException.__getattribute__")))
    (egg_Cannot : findIn K (.ref C_Cannot) "__getattr__" = some none)
    (eno_Cannot : findIn K (.ref C_Cannot) "given" = some none)
    (eex_Cannot : subIn K (.ref C_Cannot) (.type "BaseException") = some true)
    (ety_Cannot : typeIn K (.ref C_Cannot) = some (.type "type"))
    (bsu_Cannot_WrongValue : subIn K (.ref C_Cannot) (.ref C_WrongValue) = some false)
    (bsu_Cannot_WrongName : subIn K (.ref C_Cannot) (.ref C_WrongName) = some false)
    (bsu_Cannot_NotPossible : subIn K (.ref C_Cannot) (.ref C_NotPossible) = some true)
    (ehd_InvalidOuter : hasDictIn K C_InvalidOuter = true)
    (esa_InvalidOuter : findIn K (.ref C_InvalidOuter) "__setattr__" = some (some (.builtin "object.__setattr__")))
    (ega_InvalidOuter : findIn K (.ref C_InvalidOuter) "__getattribute__" = some (some (.builtin "BaseException.__getattribute__")))
    (egg_InvalidOuter : findIn K (.ref C_InvalidOuter) "__getattr__" = some none)
    (eno_InvalidOuter : findIn K (.ref C_InvalidOuter) "index" = some none)
    (eex_InvalidOuter : subIn K (.ref C_InvalidOuter) (.type "BaseException") = some true)
    (ety_InvalidOuter : typeIn K (.ref C_InvalidOuter) = some (.type "type"))
    (bsu_InvalidOuter_WrongValue : subIn K (.ref C_InvalidOuter) (.ref C_WrongValue) = some true)
    (bsu_InvalidOuter_WrongName : subIn K (.ref C_InvalidOuter) (.ref C_WrongName) = some false)
    (bsu_InvalidOuter_NotPossible : subIn K (.ref C_InvalidOuter) (.ref C_NotPossible) = some false)
    (ehd_InvalidInner : hasDictIn K C_InvalidInner = true)
    (esa_InvalidInner : findIn K (.ref C_InvalidInner) "__setattr__" = some (some (.builtin "object.__setattr__")))
    (ega_InvalidInner : findIn K (.ref C_InvalidInner) "__getattribute__" = some (some (.builtin "BaseException.__getattribute__")))
    (egg_InvalidInner : findIn K (.ref C_InvalidInner) "__getattr__" = some none)
    (eno_InvalidInner : findIn K (.ref C_InvalidInner) "index" = some none)
    (eex_InvalidInner : subIn K (.ref C_InvalidInner) (.type "BaseException") = some true)
    (ety_InvalidInner : typeIn K (.ref C_InvalidInner) = some (.type "type"))
    (bsu_InvalidInner_WrongValue : subIn K (.ref C_InvalidInner) (.ref C_WrongValue) = some true)
    (bsu_InvalidInner_WrongName : subIn K (.ref C_InvalidInner) (.ref C_WrongName) = some false)
    (bsu_InvalidInner_NotPossible : subIn K (.ref C_InvalidInner) (.ref C_NotPossible) = some false)
    (ehd_InvalidKinds : hasDictIn K C_InvalidKinds = true)
    (esa_InvalidKinds : findIn K (.ref C_InvalidKinds) "__setattr__" = some (some (.builtin "object.__setattr__")))
    (ega_InvalidKinds : findIn K (.ref C_InvalidKinds) "__getattribute__" = some (some (.builtin "BaseException.__getattribute__")))
    (egg_InvalidKinds : findIn K (.ref C_InvalidKinds) "__getattr__" = some none)
    (eno_InvalidKinds : findIn K (.ref C_InvalidKinds) "index" = some none)
    (eex_InvalidKinds : subIn K (.ref C_InvalidKinds) (.type "BaseException") = some true)
    (ety_InvalidKinds : typeIn K (.ref C_InvalidKinds) = some (.type "type"))
    (bsu_InvalidKinds_WrongValue : subIn K (.ref C_InvalidKinds) (.ref C_WrongValue) = some true)
    (bsu_InvalidKinds_WrongName : subIn K (.ref C_InvalidKinds) (.ref C_WrongName) = some false)
    (bsu_InvalidKinds_NotPossible : subIn K (.ref C_InvalidKinds) (.ref C_NotPossible) = some false)
    (ehd_NotSides : hasDictIn K C_NotSides = true)
    (esa_NotSides : findIn K (.ref C_NotSides) "__setattr__" = some (some (.builtin "object.__setattr__")))
    (ega_NotSides : findIn K (.ref C_NotSides) "__getattribute__" = some (some (.builtin "BaseException.__getattribute__")))
    (egg_NotSides : findIn K (.ref C_NotSides) "__getattr__" = some none)
    (eno_NotSides : findIn K (.ref C_NotSides) "given" = some none)
    (eex_NotSides : subIn K (.ref C_NotSides) (.type "BaseException") = some true)
    (ety_NotSides : typeIn K (.ref C_NotSides) = some (.type "type"))
    (bsu_NotSides_WrongValue : subIn K (.ref C_NotSides) (.ref C_WrongValue) = some true)
    (bsu_NotSides_WrongName : subIn K (.ref C_NotSides) (.ref C_WrongName) = some false)
    (bsu_NotSides_NotPossible : subIn K (.ref C_NotSides) (.ref C_NotPossible) = some false)
    (ehd_NotRow : hasDictIn K C_NotRow = true)
    (esa_NotRow : findIn K (.ref C_NotRow) "__setattr__" = some (some (.builtin "object.__setattr__")))
    (ega_NotRow : findIn K (.ref C_NotRow) "__getattribute__" = some (some (.builtin "BaseException.__getattribute__")))
    (egg_NotRow : findIn K (.ref C_NotRow) "__getattr__" = some none)
    (eno_NotRow : findIn K (.ref C_NotRow) "given" = some none)
    (eex_NotRow : subIn K (.ref C_NotRow) (.type "BaseException") = some true)
    (ety_NotRow : typeIn K (.ref C_NotRow) = some (.type "type"))
    (bsu_NotRow_WrongValue : subIn K (.ref C_NotRow) (.ref C_WrongValue) = some true)
    (bsu_NotRow_WrongName : subIn K (.ref C_NotRow) (.ref C_WrongName) = some false)
    (bsu_NotRow_NotPossible : subIn K (.ref C_NotRow) (.ref C_NotPossible) = some false)
    (ehd_InvalidNumber : hasDictIn K C_InvalidNumber = true)
    (esa_InvalidNumber : findIn K (.ref C_InvalidNumber) "__setattr__" = some (some (.builtin "object.__setattr__")))
    (ega_InvalidNumber : findIn K (.ref C_InvalidNumber) "__getattribute__" = some (some (.builtin "BaseException.__getattribute__")))
    (egg_InvalidNumber : findIn K (.ref C_InvalidNumber) "__getattr__" = some none)
    (eno_InvalidNumber : findIn K (.ref C_InvalidNumber) "given" = some none)
    (eex_InvalidNumber : subIn K (.ref C_InvalidNumber) (.type "BaseException") = some true)
    (ety_InvalidNumber : typeIn K (.ref C_InvalidNumber) = some (.type "type"))
    (bsu_InvalidNumber_WrongValue : subIn K (.ref C_InvalidNumber) (.ref C_WrongValue) = some true)
    (bsu_InvalidNumber_WrongName : subIn K (.ref C_InvalidNumber) (.ref C_WrongName) = some false)
    (bsu_InvalidNumber_NotPossible : subIn K (.ref C_InvalidNumber) (.ref C_NotPossible) = some false)
    (ehd_InvalidText : hasDictIn K C_InvalidText = true)
    (esa_InvalidText : findIn K (.ref C_InvalidText) "__setattr__" = some (some (.builtin "object.__setattr__")))
    (ega_InvalidText : findIn K (.ref C_InvalidText) "__getattribute__" = some (some (.builtin "BaseException.__getattribute__")))
    (egg_InvalidText : findIn K (.ref C_InvalidText) "__getattr__" = some none)
    (eno_InvalidText : findIn K (.ref C_InvalidText) "given" = some none)
    (eex_InvalidText : subIn K (.ref C_InvalidText) (.type "BaseException") = some true)
    (ety_InvalidText : typeIn K (.ref C_InvalidText) = some (.type "type"))
    (bsu_InvalidText_WrongValue : subIn K (.ref C_InvalidText) (.ref C_WrongValue) = some true)
    (bsu_InvalidText_WrongName : subIn K (.ref C_InvalidText) (.ref C_WrongName) = some false)
    (bsu_InvalidText_NotPossible : subIn K (.ref C_InvalidText) (.ref C_NotPossible) = some false)
    (ca_TooGreat : findIn K (.ref C_TooGreat) "__class__" = some (some (.builtin "object.__class__")))
    (cn : specialIn K (.builtin "object.__class__") "__get__" = some (some (.builtin "getset_descriptor.__get__")))
    (ct : takesIn K (.builtin "object.__class__") = some true)
    (co_TooGreat : mroIn K C_TooGreat (.type "object") = some true)
    (ca_TooMany : findIn K (.ref C_TooMany) "__class__" = some (some (.builtin "object.__class__")))
    (co_TooMany : mroIn K C_TooMany (.type "object") = some true)
    (ca_Cannot : findIn K (.ref C_Cannot) "__class__" = some (some (.builtin "object.__class__")))
    (co_Cannot : mroIn K C_Cannot (.type "object") = some true)
    (ca_InvalidOuter : findIn K (.ref C_InvalidOuter) "__class__" = some (some (.builtin "object.__class__")))
    (co_InvalidOuter : mroIn K C_InvalidOuter (.type "object") = some true)
    (ca_InvalidInner : findIn K (.ref C_InvalidInner) "__class__" = some (some (.builtin "object.__class__")))
    (co_InvalidInner : mroIn K C_InvalidInner (.type "object") = some true)
    (ca_InvalidKinds : findIn K (.ref C_InvalidKinds) "__class__" = some (some (.builtin "object.__class__")))
    (co_InvalidKinds : mroIn K C_InvalidKinds (.type "object") = some true)
    (ca_NotSides : findIn K (.ref C_NotSides) "__class__" = some (some (.builtin "object.__class__")))
    (co_NotSides : mroIn K C_NotSides (.type "object") = some true)
    (ca_NotRow : findIn K (.ref C_NotRow) "__class__" = some (some (.builtin "object.__class__")))
    (co_NotRow : mroIn K C_NotRow (.type "object") = some true)
    (ca_InvalidNumber : findIn K (.ref C_InvalidNumber) "__class__" = some (some (.builtin "object.__class__")))
    (co_InvalidNumber : mroIn K C_InvalidNumber (.type "object") = some true)
    (ca_InvalidText : findIn K (.ref C_InvalidText) "__class__" = some (some (.builtin "object.__class__")))
    (co_InvalidText : mroIn K C_InvalidText (.type "object") = some true)
    (km_TooGreat_NotSides : mroIn K C_TooGreat (.ref C_NotSides) = some false)
    (ic_NotSides : isClsIn K C_NotSides = true)
    (kr_TooGreat : mroIn K C_TooGreat (.ref C_TooGreat) = some true)
    (km_TooMany_NotSides : mroIn K C_TooMany (.ref C_NotSides) = some false)
    (kr_TooMany : mroIn K C_TooMany (.ref C_TooMany) = some true)
    (km_Cannot_NotSides : mroIn K C_Cannot (.ref C_NotSides) = some false)
    (kr_Cannot : mroIn K C_Cannot (.ref C_Cannot) = some true)
    (km_InvalidOuter_NotSides : mroIn K C_InvalidOuter (.ref C_NotSides) = some false)
    (kr_InvalidOuter : mroIn K C_InvalidOuter (.ref C_InvalidOuter) = some true)
    (km_InvalidInner_NotSides : mroIn K C_InvalidInner (.ref C_NotSides) = some false)
    (kr_InvalidInner : mroIn K C_InvalidInner (.ref C_InvalidInner) = some true)
    (km_InvalidKinds_NotSides : mroIn K C_InvalidKinds (.ref C_NotSides) = some false)
    (kr_InvalidKinds : mroIn K C_InvalidKinds (.ref C_InvalidKinds) = some true)
    (km_NotRow_NotSides : mroIn K C_NotRow (.ref C_NotSides) = some false)
    (kr_NotRow : mroIn K C_NotRow (.ref C_NotRow) = some true)
    (km_InvalidNumber_NotSides : mroIn K C_InvalidNumber (.ref C_NotSides) = some false)
    (kr_InvalidNumber : mroIn K C_InvalidNumber (.ref C_InvalidNumber) = some true)
    (km_InvalidText_NotSides : mroIn K C_InvalidText (.ref C_NotSides) = some false)
    (kr_InvalidText : mroIn K C_InvalidText (.ref C_InvalidText) = some true)
    (km_TooGreat_InvalidOuter : mroIn K C_TooGreat (.ref C_InvalidOuter) = some false)
    (ic_InvalidOuter : isClsIn K C_InvalidOuter = true)
    (km_TooMany_InvalidOuter : mroIn K C_TooMany (.ref C_InvalidOuter) = some false)
    (km_Cannot_InvalidOuter : mroIn K C_Cannot (.ref C_InvalidOuter) = some false)
    (km_InvalidInner_InvalidOuter : mroIn K C_InvalidInner (.ref C_InvalidOuter) = some false)
    (km_InvalidKinds_InvalidOuter : mroIn K C_InvalidKinds (.ref C_InvalidOuter) = some false)
    (km_NotSides_InvalidOuter : mroIn K C_NotSides (.ref C_InvalidOuter) = some false)
    (kr_NotSides : mroIn K C_NotSides (.ref C_NotSides) = some true)
    (km_NotRow_InvalidOuter : mroIn K C_NotRow (.ref C_InvalidOuter) = some false)
    (km_InvalidNumber_InvalidOuter : mroIn K C_InvalidNumber (.ref C_InvalidOuter) = some false)
    (km_InvalidText_InvalidOuter : mroIn K C_InvalidText (.ref C_InvalidOuter) = some false)
    (km_TooGreat_InvalidInner : mroIn K C_TooGreat (.ref C_InvalidInner) = some false)
    (ic_InvalidInner : isClsIn K C_InvalidInner = true)
    (km_TooMany_InvalidInner : mroIn K C_TooMany (.ref C_InvalidInner) = some false)
    (km_Cannot_InvalidInner : mroIn K C_Cannot (.ref C_InvalidInner) = some false)
    (km_InvalidOuter_InvalidInner : mroIn K C_InvalidOuter (.ref C_InvalidInner) = some false)
    (km_InvalidKinds_InvalidInner : mroIn K C_InvalidKinds (.ref C_InvalidInner) = some false)
    (km_NotSides_InvalidInner : mroIn K C_NotSides (.ref C_InvalidInner) = some false)
    (km_NotRow_InvalidInner : mroIn K C_NotRow (.ref C_InvalidInner) = some false)
    (km_InvalidNumber_InvalidInner : mroIn K C_InvalidNumber (.ref C_InvalidInner) = some false)
    (km_InvalidText_InvalidInner : mroIn K C_InvalidText (.ref C_InvalidInner) = some false)
    (z_ValueError : nsIn K mainGlobals "ValueError" = some (none))
    (km_TooGreat_ValueError : mroIn K C_TooGreat (.type "ValueError") = some false)
    (km_TooMany_ValueError : mroIn K C_TooMany (.type "ValueError") = some false)
    (km_Cannot_ValueError : mroIn K C_Cannot (.type "ValueError") = some false)
    (km_InvalidOuter_ValueError : mroIn K C_InvalidOuter (.type "ValueError") = some true)
    (km_InvalidInner_ValueError : mroIn K C_InvalidInner (.type "ValueError") = some true)
    (km_InvalidKinds_ValueError : mroIn K C_InvalidKinds (.type "ValueError") = some true)
    (km_NotSides_ValueError : mroIn K C_NotSides (.type "ValueError") = some true)
    (km_NotRow_ValueError : mroIn K C_NotRow (.type "ValueError") = some true)
    (km_InvalidNumber_ValueError : mroIn K C_InvalidNumber (.type "ValueError") = some true)
    (km_InvalidText_ValueError : mroIn K C_InvalidText (.type "ValueError") = some true)
    (sa1_near : findIn K (.ref C_Sides) "near" = some (some (.ref p_near)))
    (sa2_near : specialIn K (.ref p_near) "__get__" = some (some (.builtin "member_descriptor.__get__")))
    (sa3_near : takesIn K (.ref p_near) = some true)
    (sa4_near : typeIn K (.ref p_near) = some (.type "member_descriptor"))
    (sa5_near : slotIn K p_near C_Sides = some 1)
    (sa1_far : findIn K (.ref C_Sides) "far" = some (some (.ref p_far)))
    (sa2_far : specialIn K (.ref p_far) "__get__" = some (some (.builtin "member_descriptor.__get__")))
    (sa3_far : takesIn K (.ref p_far) = some true)
    (sa4_far : typeIn K (.ref p_far) = some (.type "member_descriptor"))
    (sa5_far : slotIn K p_far C_Sides = some 0)
    (me0_Sides___repr__ : findIn K (.ref C_Sides) "__repr__" = some (some (.ref f_Sides___repr__)))
    (me1_Sides___repr__ : isFn K (.ref f_Sides___repr__) = true)
    (sa1_shape : findIn K (.ref C_Row) "shape" = some (some (.ref p_shape)))
    (sa2_shape : specialIn K (.ref p_shape) "__get__" = some (some (.builtin "member_descriptor.__get__")))
    (sa3_shape : takesIn K (.ref p_shape) = some true)
    (sa4_shape : typeIn K (.ref p_shape) = some (.type "member_descriptor"))
    (sa5_shape : slotIn K p_shape C_Row = some 0)
    (me0_Row___repr__ : findIn K (.ref C_Row) "__repr__" = some (some (.ref f_Row___repr__)))
    (me1_Row___repr__ : isFn K (.ref f_Row___repr__) = true)
    (z_repr : nsIn K mainGlobals "repr" = some (none))
    (z_enumerate : nsIn K mainGlobals "enumerate" = some (none))
    (c_MOST_KINDS : nsIn K mainGlobals "MOST_KINDS" = some (some (.int 10 tk_MOST_KINDS)))
    (c_MOST_DEGREE : nsIn K mainGlobals "MOST_DEGREE" = some (some (.int 10000000000000000000000000000000 tk_MOST_DEGREE)))
    (c_MOST_COUNT : nsIn K mainGlobals "MOST_COUNT" = some (some (.int 1000000000000000000000000000000 tk_MOST_COUNT)))
    (exi_InvalidInner : excInitIn K C_InvalidInner [.type "ValueError", .type "Exception", .type "BaseException", .type "object"] "ValueError.__new__" = true)
    (exo_InvalidInner : excOver K C_InvalidInner [.type "ValueError", .type "Exception", .type "BaseException", .type "object"] = true)
    (etk_InvalidInner : takerIn K C_InvalidInner "index" = some none)
    (eii_InvalidInner : findIn K (.ref C_InvalidInner) "__init__" = some (some (.ref f_InvalidInner___init__)))
    (eti_InvalidInner : typeIn K (.ref f_InvalidInner___init__) = some (.type "function"))
    (ekc_InvalidInner : keepIn K (.ref C_InvalidInner) = true)
    (efl_InvalidInner : K.lookup f_InvalidInner___init__ = some ⟨oc_InvalidInner, od_InvalidInner, .func (PySem.W.fnOf "__init__" "InvalidInner.__init__" (xA "index" ⟨29, 17, 29, 21⟩ ⟨29, 23, 29, 28⟩) (xB "index" ⟨30, 8, 30, 12⟩ ⟨30, 8, 30, 18⟩ ⟨30, 21, 30, 26⟩ ⟨30, 8, 30, 26⟩) (xSc "index") .none kV_InvalidInner dc_InvalidInner pm_InvalidInner an_InvalidInner cd_InvalidInner ct_InvalidInner), os_InvalidInner⟩)
    (efc_InvalidInner : PySem.W.codeIn K cd_InvalidInner "InvalidInner.__init__" = true)
    (exi_InvalidOuter : excInitIn K C_InvalidOuter [.type "ValueError", .type "Exception", .type "BaseException", .type "object"] "ValueError.__new__" = true)
    (exo_InvalidOuter : excOver K C_InvalidOuter [.type "ValueError", .type "Exception", .type "BaseException", .type "object"] = true)
    (etk_InvalidOuter : takerIn K C_InvalidOuter "index" = some none)
    (eii_InvalidOuter : findIn K (.ref C_InvalidOuter) "__init__" = some (some (.ref f_InvalidOuter___init__)))
    (eti_InvalidOuter : typeIn K (.ref f_InvalidOuter___init__) = some (.type "function"))
    (ekc_InvalidOuter : keepIn K (.ref C_InvalidOuter) = true)
    (efl_InvalidOuter : K.lookup f_InvalidOuter___init__ = some ⟨oc_InvalidOuter, od_InvalidOuter, .func (PySem.W.fnOf "__init__" "InvalidOuter.__init__" (xA "index" ⟨33, 17, 33, 21⟩ ⟨33, 23, 33, 28⟩) (xB "index" ⟨34, 8, 34, 12⟩ ⟨34, 8, 34, 18⟩ ⟨34, 21, 34, 26⟩ ⟨34, 8, 34, 26⟩) (xSc "index") .none kV_InvalidOuter dc_InvalidOuter pm_InvalidOuter an_InvalidOuter cd_InvalidOuter ct_InvalidOuter), os_InvalidOuter⟩)
    (efc_InvalidOuter : PySem.W.codeIn K cd_InvalidOuter "InvalidOuter.__init__" = true)
    (mk0_Sides : makesIn K C_Sides = true)
    (mk1_Sides : findIn K (.ref C_Sides) "__init__" = some (some (.ref f_Sides___init__)))
    (mk2_Sides : isFn K (.ref f_Sides___init__) = true)
    (mk3_Sides : keepIn K (.ref C_Sides) = true)
    (me0_Sides___eq__ : findIn K (.ref C_Sides) "__eq__" = some (some (.ref f_Sides___eq__)))
    (me1_Sides___eq__ : isFn K (.ref f_Sides___eq__) = true)
    (ne_Sides : findIn K (.ref C_Sides) "__ne__" = some (some (.builtin "object.__ne__")))
    (co_Sides : mroIn K C_Sides (.type "object") = some true)
    (me0_Row___eq__ : findIn K (.ref C_Row) "__eq__" = some (some (.ref f_Row___eq__)))
    (me1_Row___eq__ : isFn K (.ref f_Row___eq__) = true)
    (ne_Row : findIn K (.ref C_Row) "__ne__" = some (some (.builtin "object.__ne__")))
    (co_Row : mroIn K C_Row (.type "object") = some true)
    (pr0_Sides_outer : findIn K (.ref C_Sides) "outer" = some (some (.ref p_Sides_outer)))
    (pr1_Sides_outer : specialIn K (.ref p_Sides_outer) "__get__" = some (some (.builtin "property.__get__")))
    (pr2_Sides_outer : takesIn K (.ref p_Sides_outer) = some true)
    (pr3_Sides_outer : recIn K p_Sides_outer "property" = some (.ref f_Sides_outer :: rs_Sides_outer))
    (pr0_Sides_inner : findIn K (.ref C_Sides) "inner" = some (some (.ref p_Sides_inner)))
    (pr1_Sides_inner : specialIn K (.ref p_Sides_inner) "__get__" = some (some (.builtin "property.__get__")))
    (pr2_Sides_inner : takesIn K (.ref p_Sides_inner) = some true)
    (pr3_Sides_inner : recIn K p_Sides_inner "property" = some (.ref f_Sides_inner :: rs_Sides_inner))
    (exi_InvalidKinds : excInitIn K C_InvalidKinds [.type "ValueError", .type "Exception", .type "BaseException", .type "object"] "ValueError.__new__" = true)
    (exo_InvalidKinds : excOver K C_InvalidKinds [.type "ValueError", .type "Exception", .type "BaseException", .type "object"] = true)
    (etk_InvalidKinds : takerIn K C_InvalidKinds "index" = some none)
    (eii_InvalidKinds : findIn K (.ref C_InvalidKinds) "__init__" = some (some (.ref f_InvalidKinds___init__)))
    (eti_InvalidKinds : typeIn K (.ref f_InvalidKinds___init__) = some (.type "function"))
    (ekc_InvalidKinds : keepIn K (.ref C_InvalidKinds) = true)
    (efl_InvalidKinds : K.lookup f_InvalidKinds___init__ = some ⟨oc_InvalidKinds, od_InvalidKinds, .func (PySem.W.fnOf "__init__" "InvalidKinds.__init__" (xA "index" ⟨25, 17, 25, 21⟩ ⟨25, 23, 25, 28⟩) (xB "index" ⟨26, 8, 26, 12⟩ ⟨26, 8, 26, 18⟩ ⟨26, 21, 26, 26⟩ ⟨26, 8, 26, 26⟩) (xSc "index") .none kV_InvalidKinds dc_InvalidKinds pm_InvalidKinds an_InvalidKinds cd_InvalidKinds ct_InvalidKinds), os_InvalidKinds⟩)
    (efc_InvalidKinds : PySem.W.codeIn K cd_InvalidKinds "InvalidKinds.__init__" = true)
    (mk0_Row : makesIn K C_Row = true)
    (mk1_Row : findIn K (.ref C_Row) "__init__" = some (some (.ref f_Row___init__)))
    (mk2_Row : isFn K (.ref f_Row___init__) = true)
    (mk3_Row : keepIn K (.ref C_Row) = true)
    (exi_NotSides : excInitIn K C_NotSides [.type "ValueError", .type "Exception", .type "BaseException", .type "object"] "ValueError.__new__" = true)
    (exo_NotSides : excOver K C_NotSides [.type "ValueError", .type "Exception", .type "BaseException", .type "object"] = true)
    (etk_NotSides : takerIn K C_NotSides "given" = some none)
    (eii_NotSides : findIn K (.ref C_NotSides) "__init__" = some (some (.ref f_NotSides___init__)))
    (eti_NotSides : typeIn K (.ref f_NotSides___init__) = some (.type "function"))
    (ekc_NotSides : keepIn K (.ref C_NotSides) = true)
    (efl_NotSides : K.lookup f_NotSides___init__ = some ⟨oc_NotSides, od_NotSides, .func (PySem.W.fnOf "__init__" "NotSides.__init__" (xA "given" ⟨21, 17, 21, 21⟩ ⟨21, 23, 21, 28⟩) (xB "given" ⟨22, 8, 22, 12⟩ ⟨22, 8, 22, 18⟩ ⟨22, 21, 22, 26⟩ ⟨22, 8, 22, 26⟩) (xSc "given") .none kV_NotSides dc_NotSides pm_NotSides an_NotSides cd_NotSides ct_NotSides), os_NotSides⟩)
    (efc_NotSides : PySem.W.codeIn K cd_NotSides "NotSides.__init__" = true)
    (pr0_Row_kinds : findIn K (.ref C_Row) "kinds" = some (some (.ref p_Row_kinds)))
    (pr1_Row_kinds : specialIn K (.ref p_Row_kinds) "__get__" = some (some (.builtin "property.__get__")))
    (pr2_Row_kinds : takesIn K (.ref p_Row_kinds) = some true)
    (pr3_Row_kinds : recIn K p_Row_kinds "property" = some (.ref f_Row_kinds :: rs_Row_kinds))
    (z_abs : nsIn K mainGlobals "abs" = some (none))
    (z_divmod : nsIn K mainGlobals "divmod" = some (none))
    (km_Row_tuple : mroIn K C_Row (.type "tuple") = some false)
    (ca_Row : findIn K (.ref C_Row) "__class__" = some (some (.builtin "object.__class__")))
    (km_Sides_tuple : mroIn K C_Sides (.type "tuple") = some false)
    (ca_Sides : findIn K (.ref C_Sides) "__class__" = some (some (.builtin "object.__class__")))
    (km_Row_bool : mroIn K C_Row (.type "bool") = some false)
    (km_Sides_bool : mroIn K C_Sides (.type "bool") = some false)
    (km_Row_int : mroIn K C_Row (.type "int") = some false)
    (km_Sides_int : mroIn K C_Sides (.type "int") = some false)
    (ty_Sides : typeIn K (.ref C_Sides) = some (.type "type"))
    (kr_Row : mroIn K C_Row (.ref C_Row) = some true)
    (km_Row_Sides : mroIn K C_Row (.ref C_Sides) = some false)
    (ty_Row : typeIn K (.ref C_Row) = some (.type "type"))
    (kr_Sides : mroIn K C_Sides (.ref C_Sides) = some true)
    (km_Sides_Row : mroIn K C_Sides (.ref C_Row) = some false)
    (fl__law_draw : K.lookup f__law_draw = some ⟨oc__law_draw, od__law_draw, .func (PySem.W.fnOf "_law_draw" "_law_draw" (defArgs st__law_draw) (defBody st__law_draw) (defScope st__law_draw) .none kV__law_draw dc__law_draw pm__law_draw an__law_draw cd__law_draw ct__law_draw), os__law_draw⟩)
    (fc__law_draw : PySem.W.codeIn K cd__law_draw "_law_draw" = true)
    (fk__law_draw : PySem.W.keepIn K (.ref f__law_draw) = true)
    (fl__law_pick : K.lookup f__law_pick = some ⟨oc__law_pick, od__law_pick, .func (PySem.W.fnOf "_law_pick" "_law_pick" (defArgs st__law_pick) (defBody st__law_pick) (defScope st__law_pick) .none kV__law_pick dc__law_pick pm__law_pick an__law_pick cd__law_pick ct__law_pick), os__law_pick⟩)
    (fc__law_pick : PySem.W.codeIn K cd__law_pick "_law_pick" = true)
    (fk__law_pick : PySem.W.keepIn K (.ref f__law_pick) = true)
    (fl__law_great : K.lookup f__law_great = some ⟨oc__law_great, od__law_great, .func (PySem.W.fnOf "_law_great" "_law_great" (defArgs st__law_great) (defBody st__law_great) (defScope st__law_great) .none kV__law_great dc__law_great pm__law_great an__law_great cd__law_great ct__law_great), os__law_great⟩)
    (fc__law_great : PySem.W.codeIn K cd__law_great "_law_great" = true)
    (fk__law_great : PySem.W.keepIn K (.ref f__law_great) = true)
    (fl__law_some : K.lookup f__law_some = some ⟨oc__law_some, od__law_some, .func (PySem.W.fnOf "_law_some" "_law_some" (defArgs st__law_some) (defBody st__law_some) (defScope st__law_some) .none kV__law_some dc__law_some pm__law_some an__law_some cd__law_some ct__law_some), os__law_some⟩)
    (fc__law_some : PySem.W.codeIn K cd__law_some "_law_some" = true)
    (fk__law_some : PySem.W.keepIn K (.ref f__law_some) = true)
    (fl__law_is_lot : K.lookup f__law_is_lot = some ⟨oc__law_is_lot, od__law_is_lot, .func (PySem.W.fnOf "_law_is_lot" "_law_is_lot" (defArgs st__law_is_lot) (defBody st__law_is_lot) (defScope st__law_is_lot) .none kV__law_is_lot dc__law_is_lot pm__law_is_lot an__law_is_lot cd__law_is_lot ct__law_is_lot), os__law_is_lot⟩)
    (fc__law_is_lot : PySem.W.codeIn K cd__law_is_lot "_law_is_lot" = true)
    (fk__law_is_lot : PySem.W.keepIn K (.ref f__law_is_lot) = true)
    (fl__law_wrong : K.lookup f__law_wrong = some ⟨oc__law_wrong, od__law_wrong, .func (PySem.W.fnOf "_law_wrong" "_law_wrong" (defArgs st__law_wrong) (defBody st__law_wrong) (defScope st__law_wrong) .none kV__law_wrong dc__law_wrong pm__law_wrong an__law_wrong cd__law_wrong ct__law_wrong), os__law_wrong⟩)
    (fc__law_wrong : PySem.W.codeIn K cd__law_wrong "_law_wrong" = true)
    (fk__law_wrong : PySem.W.keepIn K (.ref f__law_wrong) = true)
    (fl_Sides___repr__ : K.lookup f_Sides___repr__ = some ⟨oc_Sides___repr__, od_Sides___repr__, .func (PySem.W.fnOf "__repr__" "Sides.__repr__" (defArgs st_Sides___repr__) (defBody st_Sides___repr__) (defScope st_Sides___repr__) .none kV_Sides___repr__ dc_Sides___repr__ pm_Sides___repr__ an_Sides___repr__ cd_Sides___repr__ ct_Sides___repr__), os_Sides___repr__⟩)
    (fc_Sides___repr__ : PySem.W.codeIn K cd_Sides___repr__ "Sides.__repr__" = true)
    (fk_Sides___repr__ : PySem.W.keepIn K (.ref f_Sides___repr__) = true)
    (fl_Row___repr__ : K.lookup f_Row___repr__ = some ⟨oc_Row___repr__, od_Row___repr__, .func (PySem.W.fnOf "__repr__" "Row.__repr__" (defArgs st_Row___repr__) (defBody st_Row___repr__) (defScope st_Row___repr__) .none kV_Row___repr__ dc_Row___repr__ pm_Row___repr__ an_Row___repr__ cd_Row___repr__ ct_Row___repr__), os_Row___repr__⟩)
    (fc_Row___repr__ : PySem.W.codeIn K cd_Row___repr__ "Row.__repr__" = true)
    (fk_Row___repr__ : PySem.W.keepIn K (.ref f_Row___repr__) = true)
    (fl__law_caught : K.lookup f__law_caught = some ⟨oc__law_caught, od__law_caught, .func (PySem.W.fnOf "_law_caught" "_law_caught" (defArgs st__law_caught) (defBody st__law_caught) (defScope st__law_caught) .none kV__law_caught dc__law_caught pm__law_caught an__law_caught cd__law_caught ct__law_caught), os__law_caught⟩)
    (fc__law_caught : PySem.W.codeIn K cd__law_caught "_law_caught" = true)
    (fk__law_caught : PySem.W.keepIn K (.ref f__law_caught) = true)
    (fl_is_integer : K.lookup f_is_integer = some ⟨oc_is_integer, od_is_integer, .func (PySem.W.fnOf "is_integer" "is_integer" (defArgs st_is_integer) (defBody st_is_integer) (defScope st_is_integer) .none kV_is_integer dc_is_integer pm_is_integer an_is_integer cd_is_integer ct_is_integer), os_is_integer⟩)
    (fc_is_integer : PySem.W.codeIn K cd_is_integer "is_integer" = true)
    (fk_is_integer : PySem.W.keepIn K (.ref f_is_integer) = true)
    (fl_is_count : K.lookup f_is_count = some ⟨oc_is_count, od_is_count, .func (PySem.W.fnOf "is_count" "is_count" (defArgs st_is_count) (defBody st_is_count) (defScope st_is_count) .none kV_is_count dc_is_count pm_is_count an_is_count cd_is_count ct_is_count), os_is_count⟩)
    (fc_is_count : PySem.W.codeIn K cd_is_count "is_count" = true)
    (fk_is_count : PySem.W.keepIn K (.ref f_is_count) = true)
    (fl_is_kind : K.lookup f_is_kind = some ⟨oc_is_kind, od_is_kind, .func (PySem.W.fnOf "is_kind" "is_kind" (defArgs st_is_kind) (defBody st_is_kind) (defScope st_is_kind) .none kV_is_kind dc_is_kind pm_is_kind an_is_kind cd_is_kind ct_is_kind), os_is_kind⟩)
    (fc_is_kind : PySem.W.codeIn K cd_is_kind "is_kind" = true)
    (fk_is_kind : PySem.W.keepIn K (.ref f_is_kind) = true)
    (fl_wrong_kind : K.lookup f_wrong_kind = some ⟨oc_wrong_kind, od_wrong_kind, .func (PySem.W.fnOf "wrong_kind" "wrong_kind" (defArgs st_wrong_kind) (defBody st_wrong_kind) (defScope st_wrong_kind) .none kV_wrong_kind dc_wrong_kind pm_wrong_kind an_wrong_kind cd_wrong_kind ct_wrong_kind), os_wrong_kind⟩)
    (fc_wrong_kind : PySem.W.codeIn K cd_wrong_kind "wrong_kind" = true)
    (fk_wrong_kind : PySem.W.keepIn K (.ref f_wrong_kind) = true)
    (fl_Sides___init__ : K.lookup f_Sides___init__ = some ⟨oc_Sides___init__, od_Sides___init__, .func (PySem.W.fnOf "__init__" "Sides.__init__" (defArgs st_Sides___init__) (defBody st_Sides___init__) (defScope st_Sides___init__) .none kV_Sides___init__ dc_Sides___init__ pm_Sides___init__ an_Sides___init__ cd_Sides___init__ ct_Sides___init__), os_Sides___init__⟩)
    (fc_Sides___init__ : PySem.W.codeIn K cd_Sides___init__ "Sides.__init__" = true)
    (fk_Sides___init__ : PySem.W.keepIn K (.ref f_Sides___init__) = true)
    (fl_Sides___eq__ : K.lookup f_Sides___eq__ = some ⟨oc_Sides___eq__, od_Sides___eq__, .func (PySem.W.fnOf "__eq__" "Sides.__eq__" (defArgs st_Sides___eq__) (defBody st_Sides___eq__) (defScope st_Sides___eq__) .none kV_Sides___eq__ dc_Sides___eq__ pm_Sides___eq__ an_Sides___eq__ cd_Sides___eq__ ct_Sides___eq__), os_Sides___eq__⟩)
    (fc_Sides___eq__ : PySem.W.codeIn K cd_Sides___eq__ "Sides.__eq__" = true)
    (fk_Sides___eq__ : PySem.W.keepIn K (.ref f_Sides___eq__) = true)
    (fl_Row___eq__ : K.lookup f_Row___eq__ = some ⟨oc_Row___eq__, od_Row___eq__, .func (PySem.W.fnOf "__eq__" "Row.__eq__" (defArgs st_Row___eq__) (defBody st_Row___eq__) (defScope st_Row___eq__) .none kV_Row___eq__ dc_Row___eq__ pm_Row___eq__ an_Row___eq__ cd_Row___eq__ ct_Row___eq__), os_Row___eq__⟩)
    (fc_Row___eq__ : PySem.W.codeIn K cd_Row___eq__ "Row.__eq__" = true)
    (fk_Row___eq__ : PySem.W.keepIn K (.ref f_Row___eq__) = true)
    (fl_Sides_outer : K.lookup f_Sides_outer = some ⟨oc_Sides_outer, od_Sides_outer, .func (PySem.W.fnOf "outer" "Sides.outer" (defArgs st_Sides_outer) (defBody st_Sides_outer) (defScope st_Sides_outer) .none kV_Sides_outer dc_Sides_outer pm_Sides_outer an_Sides_outer cd_Sides_outer ct_Sides_outer), os_Sides_outer⟩)
    (fc_Sides_outer : PySem.W.codeIn K cd_Sides_outer "Sides.outer" = true)
    (fk_Sides_outer : PySem.W.keepIn K (.ref f_Sides_outer) = true)
    (fl_Sides_inner : K.lookup f_Sides_inner = some ⟨oc_Sides_inner, od_Sides_inner, .func (PySem.W.fnOf "inner" "Sides.inner" (defArgs st_Sides_inner) (defBody st_Sides_inner) (defScope st_Sides_inner) .none kV_Sides_inner dc_Sides_inner pm_Sides_inner an_Sides_inner cd_Sides_inner ct_Sides_inner), os_Sides_inner⟩)
    (fc_Sides_inner : PySem.W.codeIn K cd_Sides_inner "Sides.inner" = true)
    (fk_Sides_inner : PySem.W.keepIn K (.ref f_Sides_inner) = true)
    (fl_Row___init__ : K.lookup f_Row___init__ = some ⟨oc_Row___init__, od_Row___init__, .func (PySem.W.fnOf "__init__" "Row.__init__" (defArgs st_Row___init__) (defBody st_Row___init__) (defScope st_Row___init__) .none kV_Row___init__ dc_Row___init__ pm_Row___init__ an_Row___init__ cd_Row___init__ ct_Row___init__), os_Row___init__⟩)
    (fc_Row___init__ : PySem.W.codeIn K cd_Row___init__ "Row.__init__" = true)
    (fk_Row___init__ : PySem.W.keepIn K (.ref f_Row___init__) = true)
    (fl_check_sides : K.lookup f_check_sides = some ⟨oc_check_sides, od_check_sides, .func (PySem.W.fnOf "check_sides" "check_sides" (defArgs st_check_sides) (defBody st_check_sides) (defScope st_check_sides) .none kV_check_sides dc_check_sides pm_check_sides an_check_sides cd_check_sides ct_check_sides), os_check_sides⟩)
    (fc_check_sides : PySem.W.codeIn K cd_check_sides "check_sides" = true)
    (fk_check_sides : PySem.W.keepIn K (.ref f_check_sides) = true)
    (fl_can_face : K.lookup f_can_face = some ⟨oc_can_face, od_can_face, .func (PySem.W.fnOf "can_face" "can_face" (defArgs st_can_face) (defBody st_can_face) (defScope st_can_face) .none kV_can_face dc_can_face pm_can_face an_can_face cd_can_face ct_can_face), os_can_face⟩)
    (fc_can_face : PySem.W.codeIn K cd_can_face "can_face" = true)
    (fk_can_face : PySem.W.keepIn K (.ref f_can_face) = true)
    (fl_sides_can_be : K.lookup f_sides_can_be = some ⟨oc_sides_can_be, od_sides_can_be, .func (PySem.W.fnOf "sides_can_be" "sides_can_be" (defArgs st_sides_can_be) (defBody st_sides_can_be) (defScope st_sides_can_be) .none kV_sides_can_be dc_sides_can_be pm_sides_can_be an_sides_can_be cd_sides_can_be ct_sides_can_be), os_sides_can_be⟩)
    (fc_sides_can_be : PySem.W.codeIn K cd_sides_can_be "sides_can_be" = true)
    (fk_sides_can_be : PySem.W.keepIn K (.ref f_sides_can_be) = true)
    (fl_is_single : K.lookup f_is_single = some ⟨oc_is_single, od_is_single, .func (PySem.W.fnOf "is_single" "is_single" (defArgs st_is_single) (defBody st_is_single) (defScope st_is_single) .none kV_is_single dc_is_single pm_is_single an_is_single cd_is_single ct_is_single), os_is_single⟩)
    (fc_is_single : PySem.W.codeIn K cd_is_single "is_single" = true)
    (fk_is_single : PySem.W.keepIn K (.ref f_is_single) = true)
    (fl_set_around : K.lookup f_set_around = some ⟨oc_set_around, od_set_around, .func (PySem.W.fnOf "set_around" "set_around" (defArgs st_set_around) (defBody st_set_around) (defScope st_set_around) .none kV_set_around dc_set_around pm_set_around an_set_around cd_set_around ct_set_around), os_set_around⟩)
    (fc_set_around : PySem.W.codeIn K cd_set_around "set_around" = true)
    (fk_set_around : PySem.W.keepIn K (.ref f_set_around) = true)
    (fl_sides_one : K.lookup f_sides_one = some ⟨oc_sides_one, od_sides_one, .func (PySem.W.fnOf "sides_one" "sides_one" (defArgs st_sides_one) (defBody st_sides_one) (defScope st_sides_one) .none kV_sides_one dc_sides_one pm_sides_one an_sides_one cd_sides_one ct_sides_one), os_sides_one⟩)
    (fc_sides_one : PySem.W.codeIn K cd_sides_one "sides_one" = true)
    (fk_sides_one : PySem.W.keepIn K (.ref f_sides_one) = true)
    (fl_check_facing : K.lookup f_check_facing = some ⟨oc_check_facing, od_check_facing, .func (PySem.W.fnOf "check_facing" "check_facing" (defArgs st_check_facing) (defBody st_check_facing) (defScope st_check_facing) .none kV_check_facing dc_check_facing pm_check_facing an_check_facing cd_check_facing ct_check_facing), os_check_facing⟩)
    (fc_check_facing : PySem.W.codeIn K cd_check_facing "check_facing" = true)
    (fk_check_facing : PySem.W.keepIn K (.ref f_check_facing) = true)
    (fl_fitting_row : K.lookup f_fitting_row = some ⟨oc_fitting_row, od_fitting_row, .func (PySem.W.fnOf "fitting_row" "fitting_row" (defArgs st_fitting_row) (defBody st_fitting_row) (defScope st_fitting_row) .none kV_fitting_row dc_fitting_row pm_fitting_row an_fitting_row cd_fitting_row ct_fitting_row), os_fitting_row⟩)
    (fc_fitting_row : PySem.W.codeIn K cd_fitting_row "fitting_row" = true)
    (fk_fitting_row : PySem.W.keepIn K (.ref f_fitting_row) = true)
    (fl_alone_row : K.lookup f_alone_row = some ⟨oc_alone_row, od_alone_row, .func (PySem.W.fnOf "alone_row" "alone_row" (defArgs st_alone_row) (defBody st_alone_row) (defScope st_alone_row) .none kV_alone_row dc_alone_row pm_alone_row an_alone_row cd_alone_row ct_alone_row), os_alone_row⟩)
    (fc_alone_row : PySem.W.codeIn K cd_alone_row "alone_row" = true)
    (fk_alone_row : PySem.W.keepIn K (.ref f_alone_row) = true)
    (fl_check_row : K.lookup f_check_row = some ⟨oc_check_row, od_check_row, .func (PySem.W.fnOf "check_row" "check_row" (defArgs st_check_row) (defBody st_check_row) (defScope st_check_row) .none kV_check_row dc_check_row pm_check_row an_check_row cd_check_row ct_check_row), os_check_row⟩)
    (fc_check_row : PySem.W.codeIn K cd_check_row "check_row" = true)
    (fk_check_row : PySem.W.keepIn K (.ref f_check_row) = true)
    (fl_check_can : K.lookup f_check_can = some ⟨oc_check_can, od_check_can, .func (PySem.W.fnOf "check_can" "check_can" (defArgs st_check_can) (defBody st_check_can) (defScope st_check_can) .none kV_check_can dc_check_can pm_check_can an_check_can cd_check_can ct_check_can), os_check_can⟩)
    (fc_check_can : PySem.W.codeIn K cd_check_can "check_can" = true)
    (fk_check_can : PySem.W.keepIn K (.ref f_check_can) = true)
    (fl_Row_kinds : K.lookup f_Row_kinds = some ⟨oc_Row_kinds, od_Row_kinds, .func (PySem.W.fnOf "kinds" "Row.kinds" (defArgs st_Row_kinds) (defBody st_Row_kinds) (defScope st_Row_kinds) .none kV_Row_kinds dc_Row_kinds pm_Row_kinds an_Row_kinds cd_Row_kinds ct_Row_kinds), os_Row_kinds⟩)
    (fc_Row_kinds : PySem.W.codeIn K cd_Row_kinds "Row.kinds" = true)
    (fk_Row_kinds : PySem.W.keepIn K (.ref f_Row_kinds) = true)
    (fl_around : K.lookup f_around = some ⟨oc_around, od_around, .func (PySem.W.fnOf "around" "around" (defArgs st_around) (defBody st_around) (defScope st_around) .none kV_around dc_around pm_around an_around cd_around ct_around), os_around⟩)
    (fc_around : PySem.W.codeIn K cd_around "around" = true)
    (fk_around : PySem.W.keepIn K (.ref f_around) = true)
    (fl__law_right : K.lookup f__law_right = some ⟨oc__law_right, od__law_right, .func (PySem.W.fnOf "_law_right" "_law_right" (defArgs st__law_right) (defBody st__law_right) (defScope st__law_right) .none kV__law_right dc__law_right pm__law_right an__law_right (.ref lc__law_right) ct__law_right), os__law_right⟩)
    (fc__law_right : PySem.W.codeIn K (.ref lc__law_right) "_law_right" = true)
    (hv__law_right : K.lookup lc__law_right = some ⟨vo__law_right, vd__law_right, .fields vv__law_right, vl__law_right⟩)
    (hl__law_right : vv__law_right[11]? = some (.ref lp__law_right))
    (fk__law_right : PySem.W.keepIn K (.ref f__law_right) = true)
    (fl__law_well : K.lookup f__law_well = some ⟨oc__law_well, od__law_well, .func (PySem.W.fnOf "_law_well" "_law_well" (defArgs st__law_well) (defBody st__law_well) (defScope st__law_well) .none kV__law_well dc__law_well pm__law_well an__law_well cd__law_well ct__law_well), os__law_well⟩)
    (fc__law_well : PySem.W.codeIn K cd__law_well "_law_well" = true)
    (fk__law_well : PySem.W.keepIn K (.ref f__law_well) = true)
    (fl_law : K.lookup f_law = some ⟨oc_law, od_law, .func (PySem.W.fnOf "law" "law" (defArgs st_law) (defBody st_law) (defScope st_law) .none kV_law dc_law pm_law an_law cd_law ct_law), os_law⟩)
    (fc_law : PySem.W.codeIn K cd_law "law" = true)
    (fk_law : PySem.W.keepIn K (.ref f_law) = true)
    (eii_InvalidText : findIn K (.ref C_InvalidText) "__init__" = some (some (.ref f_InvalidText___init__)))
    (eii_InvalidNumber : findIn K (.ref C_InvalidNumber) "__init__" = some (some (.ref f_InvalidNumber___init__)))
    (eii_NotRow : findIn K (.ref C_NotRow) "__init__" = some (some (.ref f_NotRow___init__)))
    (eii_Cannot : findIn K (.ref C_Cannot) "__init__" = some (some (.ref f_Cannot___init__)))
    (eii_TooMany : findIn K (.ref C_TooMany) "__init__" = some (some (.ref f_TooMany___init__)))
    (eii_TooGreat : findIn K (.ref C_TooGreat) "__init__" = some (some (.ref f_TooGreat___init__))) :
    ∃ (T : Tx) (fd : FuncData), T.K = K ∧ T.tb = ([(lc__law_right, lp__law_right, nm__law_right)] : List (Addr × Addr × Str)).map (·.2) ∧ (∀ (s : Shared) (u : Value), BindsTo s fd ⟨[u], []⟩ [("script", u)]) ∧ ∀ base : Heap, T.K.In base → base.Ns mainGlobals mg → (∀ t ∈ ([(lc__law_right, lp__law_right, nm__law_right)] : List (Addr × Addr × Str)), LamX.TabB base mg t.1 t.2.1) → FnG l.prog w T.K mg base 11 fa fd ["script"] (spD T 1 (lawS 63)) := by
  have e := hfa.symm.trans (mg_of X G m_law)
  cases e
  have tx_Row : SlX.SCls K C_Row := ⟨pg_Row, ic_Row, po_Row, sa_Row⟩
  have tx_Sides : SlX.SCls K C_Sides := ⟨pg_Sides, ic_Sides, po_Sides, sa_Sides⟩
  let A : Ad := {
    C_Row := C_Row,
    C_Sides := C_Sides,
    C_WrongValue := C_WrongValue,
    C_WrongName := C_WrongName,
    C_NotPossible := C_NotPossible,
    C_InvalidText := C_InvalidText,
    C_InvalidNumber := C_InvalidNumber,
    C_NotRow := C_NotRow,
    C_NotSides := C_NotSides,
    C_InvalidKinds := C_InvalidKinds,
    C_InvalidInner := C_InvalidInner,
    C_InvalidOuter := C_InvalidOuter,
    C_Cannot := C_Cannot,
    C_TooMany := C_TooMany,
    C_TooGreat := C_TooGreat,
    f_InvalidText___init__ := f_InvalidText___init__,
    f_InvalidNumber___init__ := f_InvalidNumber___init__,
    f_NotRow___init__ := f_NotRow___init__,
    f_NotSides___init__ := f_NotSides___init__,
    f_InvalidKinds___init__ := f_InvalidKinds___init__,
    f_InvalidInner___init__ := f_InvalidInner___init__,
    f_InvalidOuter___init__ := f_InvalidOuter___init__,
    f_Cannot___init__ := f_Cannot___init__,
    f_TooMany___init__ := f_TooMany___init__,
    f_TooGreat___init__ := f_TooGreat___init__,
    lc__law_right := lc__law_right,
    lp__law_right := lp__law_right,
    p_shape := p_shape,
    p_near := p_near,
    p_far := p_far,
    f__law_draw := f__law_draw,
    f__law_pick := f__law_pick,
    f__law_great := f__law_great,
    f__law_some := f__law_some,
    f__law_is_lot := f__law_is_lot,
    f__law_wrong := f__law_wrong,
    f_Sides___repr__ := f_Sides___repr__,
    f_Row___repr__ := f_Row___repr__,
    f__law_caught := f__law_caught,
    f_is_integer := f_is_integer,
    f_is_count := f_is_count,
    f_is_kind := f_is_kind,
    f_wrong_kind := f_wrong_kind,
    f_Sides___init__ := f_Sides___init__,
    f_Sides___eq__ := f_Sides___eq__,
    f_Row___eq__ := f_Row___eq__,
    f_Sides_outer := f_Sides_outer,
    p_Sides_outer := p_Sides_outer,
    f_Sides_inner := f_Sides_inner,
    p_Sides_inner := p_Sides_inner,
    f_Row___init__ := f_Row___init__,
    f_check_sides := f_check_sides,
    f_can_face := f_can_face,
    f_sides_can_be := f_sides_can_be,
    f_is_single := f_is_single,
    f_set_around := f_set_around,
    f_sides_one := f_sides_one,
    f_check_facing := f_check_facing,
    f_fitting_row := f_fitting_row,
    f_alone_row := f_alone_row,
    f_check_row := f_check_row,
    f_check_can := f_check_can,
    f_Row_kinds := f_Row_kinds,
    p_Row_kinds := p_Row_kinds,
    f_around := f_around,
    f__law_right := f__law_right,
    f__law_well := f__law_well,
    f_law := fa,
    d__law_draw := PySem.W.fnOf "_law_draw" "_law_draw" (defArgs st__law_draw) (defBody st__law_draw) (defScope st__law_draw) .none kV__law_draw dc__law_draw pm__law_draw an__law_draw cd__law_draw ct__law_draw,
    d__law_pick := PySem.W.fnOf "_law_pick" "_law_pick" (defArgs st__law_pick) (defBody st__law_pick) (defScope st__law_pick) .none kV__law_pick dc__law_pick pm__law_pick an__law_pick cd__law_pick ct__law_pick,
    d__law_great := PySem.W.fnOf "_law_great" "_law_great" (defArgs st__law_great) (defBody st__law_great) (defScope st__law_great) .none kV__law_great dc__law_great pm__law_great an__law_great cd__law_great ct__law_great,
    d__law_some := PySem.W.fnOf "_law_some" "_law_some" (defArgs st__law_some) (defBody st__law_some) (defScope st__law_some) .none kV__law_some dc__law_some pm__law_some an__law_some cd__law_some ct__law_some,
    d__law_is_lot := PySem.W.fnOf "_law_is_lot" "_law_is_lot" (defArgs st__law_is_lot) (defBody st__law_is_lot) (defScope st__law_is_lot) .none kV__law_is_lot dc__law_is_lot pm__law_is_lot an__law_is_lot cd__law_is_lot ct__law_is_lot,
    d__law_wrong := PySem.W.fnOf "_law_wrong" "_law_wrong" (defArgs st__law_wrong) (defBody st__law_wrong) (defScope st__law_wrong) .none kV__law_wrong dc__law_wrong pm__law_wrong an__law_wrong cd__law_wrong ct__law_wrong,
    d_Sides___repr__ := PySem.W.fnOf "__repr__" "Sides.__repr__" (defArgs st_Sides___repr__) (defBody st_Sides___repr__) (defScope st_Sides___repr__) .none kV_Sides___repr__ dc_Sides___repr__ pm_Sides___repr__ an_Sides___repr__ cd_Sides___repr__ ct_Sides___repr__,
    d_Row___repr__ := PySem.W.fnOf "__repr__" "Row.__repr__" (defArgs st_Row___repr__) (defBody st_Row___repr__) (defScope st_Row___repr__) .none kV_Row___repr__ dc_Row___repr__ pm_Row___repr__ an_Row___repr__ cd_Row___repr__ ct_Row___repr__,
    d__law_caught := PySem.W.fnOf "_law_caught" "_law_caught" (defArgs st__law_caught) (defBody st__law_caught) (defScope st__law_caught) .none kV__law_caught dc__law_caught pm__law_caught an__law_caught cd__law_caught ct__law_caught,
    d_is_integer := PySem.W.fnOf "is_integer" "is_integer" (defArgs st_is_integer) (defBody st_is_integer) (defScope st_is_integer) .none kV_is_integer dc_is_integer pm_is_integer an_is_integer cd_is_integer ct_is_integer,
    d_is_count := PySem.W.fnOf "is_count" "is_count" (defArgs st_is_count) (defBody st_is_count) (defScope st_is_count) .none kV_is_count dc_is_count pm_is_count an_is_count cd_is_count ct_is_count,
    d_is_kind := PySem.W.fnOf "is_kind" "is_kind" (defArgs st_is_kind) (defBody st_is_kind) (defScope st_is_kind) .none kV_is_kind dc_is_kind pm_is_kind an_is_kind cd_is_kind ct_is_kind,
    d_wrong_kind := PySem.W.fnOf "wrong_kind" "wrong_kind" (defArgs st_wrong_kind) (defBody st_wrong_kind) (defScope st_wrong_kind) .none kV_wrong_kind dc_wrong_kind pm_wrong_kind an_wrong_kind cd_wrong_kind ct_wrong_kind,
    d_Sides___init__ := PySem.W.fnOf "__init__" "Sides.__init__" (defArgs st_Sides___init__) (defBody st_Sides___init__) (defScope st_Sides___init__) .none kV_Sides___init__ dc_Sides___init__ pm_Sides___init__ an_Sides___init__ cd_Sides___init__ ct_Sides___init__,
    d_Sides___eq__ := PySem.W.fnOf "__eq__" "Sides.__eq__" (defArgs st_Sides___eq__) (defBody st_Sides___eq__) (defScope st_Sides___eq__) .none kV_Sides___eq__ dc_Sides___eq__ pm_Sides___eq__ an_Sides___eq__ cd_Sides___eq__ ct_Sides___eq__,
    d_Row___eq__ := PySem.W.fnOf "__eq__" "Row.__eq__" (defArgs st_Row___eq__) (defBody st_Row___eq__) (defScope st_Row___eq__) .none kV_Row___eq__ dc_Row___eq__ pm_Row___eq__ an_Row___eq__ cd_Row___eq__ ct_Row___eq__,
    d_Sides_outer := PySem.W.fnOf "outer" "Sides.outer" (defArgs st_Sides_outer) (defBody st_Sides_outer) (defScope st_Sides_outer) .none kV_Sides_outer dc_Sides_outer pm_Sides_outer an_Sides_outer cd_Sides_outer ct_Sides_outer,
    d_Sides_inner := PySem.W.fnOf "inner" "Sides.inner" (defArgs st_Sides_inner) (defBody st_Sides_inner) (defScope st_Sides_inner) .none kV_Sides_inner dc_Sides_inner pm_Sides_inner an_Sides_inner cd_Sides_inner ct_Sides_inner,
    d_Row___init__ := PySem.W.fnOf "__init__" "Row.__init__" (defArgs st_Row___init__) (defBody st_Row___init__) (defScope st_Row___init__) .none kV_Row___init__ dc_Row___init__ pm_Row___init__ an_Row___init__ cd_Row___init__ ct_Row___init__,
    d_check_sides := PySem.W.fnOf "check_sides" "check_sides" (defArgs st_check_sides) (defBody st_check_sides) (defScope st_check_sides) .none kV_check_sides dc_check_sides pm_check_sides an_check_sides cd_check_sides ct_check_sides,
    d_can_face := PySem.W.fnOf "can_face" "can_face" (defArgs st_can_face) (defBody st_can_face) (defScope st_can_face) .none kV_can_face dc_can_face pm_can_face an_can_face cd_can_face ct_can_face,
    d_sides_can_be := PySem.W.fnOf "sides_can_be" "sides_can_be" (defArgs st_sides_can_be) (defBody st_sides_can_be) (defScope st_sides_can_be) .none kV_sides_can_be dc_sides_can_be pm_sides_can_be an_sides_can_be cd_sides_can_be ct_sides_can_be,
    d_is_single := PySem.W.fnOf "is_single" "is_single" (defArgs st_is_single) (defBody st_is_single) (defScope st_is_single) .none kV_is_single dc_is_single pm_is_single an_is_single cd_is_single ct_is_single,
    d_set_around := PySem.W.fnOf "set_around" "set_around" (defArgs st_set_around) (defBody st_set_around) (defScope st_set_around) .none kV_set_around dc_set_around pm_set_around an_set_around cd_set_around ct_set_around,
    d_sides_one := PySem.W.fnOf "sides_one" "sides_one" (defArgs st_sides_one) (defBody st_sides_one) (defScope st_sides_one) .none kV_sides_one dc_sides_one pm_sides_one an_sides_one cd_sides_one ct_sides_one,
    d_check_facing := PySem.W.fnOf "check_facing" "check_facing" (defArgs st_check_facing) (defBody st_check_facing) (defScope st_check_facing) .none kV_check_facing dc_check_facing pm_check_facing an_check_facing cd_check_facing ct_check_facing,
    d_fitting_row := PySem.W.fnOf "fitting_row" "fitting_row" (defArgs st_fitting_row) (defBody st_fitting_row) (defScope st_fitting_row) .none kV_fitting_row dc_fitting_row pm_fitting_row an_fitting_row cd_fitting_row ct_fitting_row,
    d_alone_row := PySem.W.fnOf "alone_row" "alone_row" (defArgs st_alone_row) (defBody st_alone_row) (defScope st_alone_row) .none kV_alone_row dc_alone_row pm_alone_row an_alone_row cd_alone_row ct_alone_row,
    d_check_row := PySem.W.fnOf "check_row" "check_row" (defArgs st_check_row) (defBody st_check_row) (defScope st_check_row) .none kV_check_row dc_check_row pm_check_row an_check_row cd_check_row ct_check_row,
    d_check_can := PySem.W.fnOf "check_can" "check_can" (defArgs st_check_can) (defBody st_check_can) (defScope st_check_can) .none kV_check_can dc_check_can pm_check_can an_check_can cd_check_can ct_check_can,
    d_Row_kinds := PySem.W.fnOf "kinds" "Row.kinds" (defArgs st_Row_kinds) (defBody st_Row_kinds) (defScope st_Row_kinds) .none kV_Row_kinds dc_Row_kinds pm_Row_kinds an_Row_kinds cd_Row_kinds ct_Row_kinds,
    d_around := PySem.W.fnOf "around" "around" (defArgs st_around) (defBody st_around) (defScope st_around) .none kV_around dc_around pm_around an_around cd_around ct_around,
    d__law_right := PySem.W.fnOf "_law_right" "_law_right" (defArgs st__law_right) (defBody st__law_right) (defScope st__law_right) .none kV__law_right dc__law_right pm__law_right an__law_right (.ref lc__law_right) ct__law_right,
    d__law_well := PySem.W.fnOf "_law_well" "_law_well" (defArgs st__law_well) (defBody st__law_well) (defScope st__law_well) .none kV__law_well dc__law_well pm__law_well an__law_well cd__law_well ct__law_well,
    d_law := PySem.W.fnOf "law" "law" (defArgs st_law) (defBody st_law) (defScope st_law) .none kV_law dc_law pm_law an_law cd_law ct_law }
  have tx : Txt A K mg := {
    scls_Row := ⟨pg_Row, ic_Row, po_Row, sa_Row⟩,
    scls_Sides := ⟨pg_Sides, ic_Sides, po_Sides, sa_Sides⟩,
    z_all := mg_none_of X G z_all,
    z_range := mg_none_of X G z_range,
    z_max := mg_none_of X G z_max,
    z_min := mg_none_of X G z_min,
    z_len := mg_none_of X G z_len,
    m__law_draw := mg_of X G m__law_draw,
    m__law_pick := mg_of X G m__law_pick,
    z_int := mg_none_of X G z_int,
    m__law_great := mg_of X G m__law_great,
    z_list := mg_none_of X G z_list,
    z_tuple := mg_none_of X G z_tuple,
    m__law_some := mg_of X G m__law_some,
    z_isinstance := mg_none_of X G z_isinstance,
    z_bool := mg_none_of X G z_bool,
    m__law_is_lot := mg_of X G m__law_is_lot,
    z_str := mg_none_of X G z_str,
    m__law_wrong := mg_of X G m__law_wrong,
    m_WrongValue := mg_of X G m_WrongValue,
    m_WrongName := mg_of X G m_WrongName,
    m_NotPossible := mg_of X G m_NotPossible,
    m__law_caught := mg_of X G m__law_caught,
    hx_ans := (xm_cons (exm3 (exm_ref bex_WrongValue bhd_WrongValue bty_WrongValue bsu_InvalidText_WrongValue) (exm_ref bex_WrongName bhd_WrongName bty_WrongName bsu_InvalidText_WrongName) (exm_ref bex_NotPossible bhd_NotPossible bty_NotPossible bsu_InvalidText_NotPossible) rfl) (xm_cons (exm3 (exm_ref bex_WrongValue bhd_WrongValue bty_WrongValue bsu_InvalidNumber_WrongValue) (exm_ref bex_WrongName bhd_WrongName bty_WrongName bsu_InvalidNumber_WrongName) (exm_ref bex_NotPossible bhd_NotPossible bty_NotPossible bsu_InvalidNumber_NotPossible) rfl) (xm_cons (exm3 (exm_ref bex_WrongValue bhd_WrongValue bty_WrongValue bsu_NotRow_WrongValue) (exm_ref bex_WrongName bhd_WrongName bty_WrongName bsu_NotRow_WrongName) (exm_ref bex_NotPossible bhd_NotPossible bty_NotPossible bsu_NotRow_NotPossible) rfl) (xm_cons (exm3 (exm_ref bex_WrongValue bhd_WrongValue bty_WrongValue bsu_NotSides_WrongValue) (exm_ref bex_WrongName bhd_WrongName bty_WrongName bsu_NotSides_WrongName) (exm_ref bex_NotPossible bhd_NotPossible bty_NotPossible bsu_NotSides_NotPossible) rfl) (xm_cons (exm3 (exm_ref bex_WrongValue bhd_WrongValue bty_WrongValue bsu_InvalidKinds_WrongValue) (exm_ref bex_WrongName bhd_WrongName bty_WrongName bsu_InvalidKinds_WrongName) (exm_ref bex_NotPossible bhd_NotPossible bty_NotPossible bsu_InvalidKinds_NotPossible) rfl) (xm_cons (exm3 (exm_ref bex_WrongValue bhd_WrongValue bty_WrongValue bsu_InvalidInner_WrongValue) (exm_ref bex_WrongName bhd_WrongName bty_WrongName bsu_InvalidInner_WrongName) (exm_ref bex_NotPossible bhd_NotPossible bty_NotPossible bsu_InvalidInner_NotPossible) rfl) (xm_cons (exm3 (exm_ref bex_WrongValue bhd_WrongValue bty_WrongValue bsu_InvalidOuter_WrongValue) (exm_ref bex_WrongName bhd_WrongName bty_WrongName bsu_InvalidOuter_WrongName) (exm_ref bex_NotPossible bhd_NotPossible bty_NotPossible bsu_InvalidOuter_NotPossible) rfl) (xm_cons (exm3 (exm_ref bex_WrongValue bhd_WrongValue bty_WrongValue bsu_Cannot_WrongValue) (exm_ref bex_WrongName bhd_WrongName bty_WrongName bsu_Cannot_WrongName) (exm_ref bex_NotPossible bhd_NotPossible bty_NotPossible bsu_Cannot_NotPossible) rfl) (xm_cons (exm3 (exm_ref bex_WrongValue bhd_WrongValue bty_WrongValue bsu_TooMany_WrongValue) (exm_ref bex_WrongName bhd_WrongName bty_WrongName bsu_TooMany_WrongName) (exm_ref bex_NotPossible bhd_NotPossible bty_NotPossible bsu_TooMany_NotPossible) rfl) (xm_cons (exm3 (exm_ref bex_WrongValue bhd_WrongValue bty_WrongValue bsu_TooGreat_WrongValue) (exm_ref bex_WrongName bhd_WrongName bty_WrongName bsu_TooGreat_WrongName) (exm_ref bex_NotPossible bhd_NotPossible bty_NotPossible bsu_TooGreat_NotPossible) rfl) xm_nil)))))))))),
    hx_err := (xm_cons ⟨⟨ega_InvalidText, egg_InvalidText, eex_InvalidText, ehd_InvalidText, ca_InvalidText, cn, ct, co_InvalidText⟩, eno_InvalidText⟩ (xm_cons ⟨⟨ega_InvalidNumber, egg_InvalidNumber, eex_InvalidNumber, ehd_InvalidNumber, ca_InvalidNumber, cn, ct, co_InvalidNumber⟩, eno_InvalidNumber⟩ (xm_cons ⟨⟨ega_NotRow, egg_NotRow, eex_NotRow, ehd_NotRow, ca_NotRow, cn, ct, co_NotRow⟩, eno_NotRow⟩ (xm_cons ⟨⟨ega_NotSides, egg_NotSides, eex_NotSides, ehd_NotSides, ca_NotSides, cn, ct, co_NotSides⟩, eno_NotSides⟩ (xm_cons ⟨⟨ega_InvalidKinds, egg_InvalidKinds, eex_InvalidKinds, ehd_InvalidKinds, ca_InvalidKinds, cn, ct, co_InvalidKinds⟩, eno_InvalidKinds⟩ (xm_cons ⟨⟨ega_InvalidInner, egg_InvalidInner, eex_InvalidInner, ehd_InvalidInner, ca_InvalidInner, cn, ct, co_InvalidInner⟩, eno_InvalidInner⟩ (xm_cons ⟨⟨ega_InvalidOuter, egg_InvalidOuter, eex_InvalidOuter, ehd_InvalidOuter, ca_InvalidOuter, cn, ct, co_InvalidOuter⟩, eno_InvalidOuter⟩ (xm_cons ⟨⟨ega_Cannot, egg_Cannot, eex_Cannot, ehd_Cannot, ca_Cannot, cn, ct, co_Cannot⟩, eno_Cannot⟩ (xm_cons ⟨⟨ega_TooMany, egg_TooMany, eex_TooMany, ehd_TooMany, ca_TooMany, cn, ct, co_TooMany⟩, eno_TooMany⟩ (xm_cons ⟨⟨ega_TooGreat, egg_TooGreat, eex_TooGreat, ehd_TooGreat, ca_TooGreat, cn, ct, co_TooGreat⟩, eno_TooGreat⟩ xm_nil)))))))))),
    m_NotSides := mg_of X G m_NotSides,
    ix_NotSides := (xt_cons (kit_mm kr_InvalidText km_InvalidText_NotSides ic_NotSides ety_NotSides) (xt_cons (kit_mm kr_InvalidNumber km_InvalidNumber_NotSides ic_NotSides ety_NotSides) (xt_cons (kit_mm kr_NotRow km_NotRow_NotSides ic_NotSides ety_NotSides) (xt_cons kit_me (xt_cons (kit_mm kr_InvalidKinds km_InvalidKinds_NotSides ic_NotSides ety_NotSides) (xt_cons (kit_mm kr_InvalidInner km_InvalidInner_NotSides ic_NotSides ety_NotSides) (xt_cons (kit_mm kr_InvalidOuter km_InvalidOuter_NotSides ic_NotSides ety_NotSides) (xt_cons (kit_mm kr_Cannot km_Cannot_NotSides ic_NotSides ety_NotSides) (xt_cons (kit_mm kr_TooMany km_TooMany_NotSides ic_NotSides ety_NotSides) (xt_cons (kit_mm kr_TooGreat km_TooGreat_NotSides ic_NotSides ety_NotSides) xt_nil)))))))))),
    m_InvalidOuter := mg_of X G m_InvalidOuter,
    ix_InvalidOuter := (xt_cons (kit_mm kr_InvalidText km_InvalidText_InvalidOuter ic_InvalidOuter ety_InvalidOuter) (xt_cons (kit_mm kr_InvalidNumber km_InvalidNumber_InvalidOuter ic_InvalidOuter ety_InvalidOuter) (xt_cons (kit_mm kr_NotRow km_NotRow_InvalidOuter ic_InvalidOuter ety_InvalidOuter) (xt_cons (kit_mm kr_NotSides km_NotSides_InvalidOuter ic_InvalidOuter ety_InvalidOuter) (xt_cons (kit_mm kr_InvalidKinds km_InvalidKinds_InvalidOuter ic_InvalidOuter ety_InvalidOuter) (xt_cons (kit_mm kr_InvalidInner km_InvalidInner_InvalidOuter ic_InvalidOuter ety_InvalidOuter) (xt_cons kit_me (xt_cons (kit_mm kr_Cannot km_Cannot_InvalidOuter ic_InvalidOuter ety_InvalidOuter) (xt_cons (kit_mm kr_TooMany km_TooMany_InvalidOuter ic_InvalidOuter ety_InvalidOuter) (xt_cons (kit_mm kr_TooGreat km_TooGreat_InvalidOuter ic_InvalidOuter ety_InvalidOuter) xt_nil)))))))))),
    m_InvalidInner := mg_of X G m_InvalidInner,
    ix_InvalidInner := (xt_cons (kit_mm kr_InvalidText km_InvalidText_InvalidInner ic_InvalidInner ety_InvalidInner) (xt_cons (kit_mm kr_InvalidNumber km_InvalidNumber_InvalidInner ic_InvalidInner ety_InvalidInner) (xt_cons (kit_mm kr_NotRow km_NotRow_InvalidInner ic_InvalidInner ety_InvalidInner) (xt_cons (kit_mm kr_NotSides km_NotSides_InvalidInner ic_InvalidInner ety_InvalidInner) (xt_cons (kit_mm kr_InvalidKinds km_InvalidKinds_InvalidInner ic_InvalidInner ety_InvalidInner) (xt_cons kit_me (xt_cons (kit_mm kr_InvalidOuter km_InvalidOuter_InvalidInner ic_InvalidInner ety_InvalidInner) (xt_cons (kit_mm kr_Cannot km_Cannot_InvalidInner ic_InvalidInner ety_InvalidInner) (xt_cons (kit_mm kr_TooMany km_TooMany_InvalidInner ic_InvalidInner ety_InvalidInner) (xt_cons (kit_mm kr_TooGreat km_TooGreat_InvalidInner ic_InvalidInner ety_InvalidInner) xt_nil)))))))))),
    z_ValueError := mg_none_of X G z_ValueError,
    ix_ValueError := (xt_cons (kit_mt km_InvalidText_ValueError) (xt_cons (kit_mt km_InvalidNumber_ValueError) (xt_cons (kit_mt km_NotRow_ValueError) (xt_cons (kit_mt km_NotSides_ValueError) (xt_cons (kit_mt km_InvalidKinds_ValueError) (xt_cons (kit_mt km_InvalidInner_ValueError) (xt_cons (kit_mt km_InvalidOuter_ValueError) (xt_cons (kit_mt km_Cannot_ValueError) (xt_cons (kit_mt km_TooMany_ValueError) (xt_cons (kit_mt km_TooGreat_ValueError) xt_nil)))))))))),
    sl_near := ⟨sa1_near, sa2_near, sa3_near, sa4_near, sa5_near, by decide⟩,
    sl_far := ⟨sa1_far, sa2_far, sa3_far, sa4_far, sa5_far, by decide⟩,
    me_Sides___repr__ := ⟨me0_Sides___repr__, me1_Sides___repr__⟩,
    sl_shape := ⟨sa1_shape, sa2_shape, sa3_shape, sa4_shape, sa5_shape, by decide⟩,
    me_Row___repr__ := ⟨me0_Row___repr__, me1_Row___repr__⟩,
    z_repr := mg_none_of X G z_repr,
    z_enumerate := mg_none_of X G z_enumerate,
    c_MOST_KINDS := ⟨_, mg_of X G c_MOST_KINDS⟩,
    m_is_integer := mg_of X G m_is_integer,
    m_is_count := mg_of X G m_is_count,
    c_MOST_DEGREE := ⟨_, mg_of X G c_MOST_DEGREE⟩,
    c_MOST_COUNT := ⟨_, mg_of X G c_MOST_COUNT⟩,
    m_is_kind := mg_of X G m_is_kind,
    m_wrong_kind := mg_of X G m_wrong_kind,
    xt_InvalidInner := ⟨mg_of X G m_InvalidInner, .inr rfl, ⟨"ValueError", "ValueError.__new__", "ValueError.__init__", _, PySem.F.excBase_ValueError, PySem.F.store_ValueError, exi_InvalidInner, exo_InvalidInner⟩, ehd_InvalidInner, etk_InvalidInner, esa_InvalidInner, ega_InvalidInner, egg_InvalidInner, eno_InvalidInner, eii_InvalidInner, eti_InvalidInner, ekc_InvalidInner, eex_InvalidInner, ety_InvalidInner, ⟨_, _, _, _, _, _, _, _, _, _, _, _, _, _, _, _, efl_InvalidInner, efc_InvalidInner⟩⟩,
    xt_InvalidOuter := ⟨mg_of X G m_InvalidOuter, .inr rfl, ⟨"ValueError", "ValueError.__new__", "ValueError.__init__", _, PySem.F.excBase_ValueError, PySem.F.store_ValueError, exi_InvalidOuter, exo_InvalidOuter⟩, ehd_InvalidOuter, etk_InvalidOuter, esa_InvalidOuter, ega_InvalidOuter, egg_InvalidOuter, eno_InvalidOuter, eii_InvalidOuter, eti_InvalidOuter, ekc_InvalidOuter, eex_InvalidOuter, ety_InvalidOuter, ⟨_, _, _, _, _, _, _, _, _, _, _, _, _, _, _, _, efl_InvalidOuter, efc_InvalidOuter⟩⟩,
    m_Sides := mg_of X G m_Sides,
    mk_Sides := ⟨mk0_Sides, mk1_Sides, mk2_Sides, mk3_Sides⟩,
    lc__law_right := rfl,
    hu__law_right := fun p hp _ => by rcases List.mem_singleton.mp hp with rfl; rfl,
    me_Sides___eq__ := ⟨me0_Sides___eq__, me1_Sides___eq__⟩,
    ne_Sides := ⟨ne_Sides, co_Sides⟩,
    m_Row := mg_of X G m_Row,
    me_Row___eq__ := ⟨me0_Row___eq__, me1_Row___eq__⟩,
    ne_Row := ⟨ne_Row, co_Row⟩,
    pr_Sides_outer := ⟨pr0_Sides_outer, pr1_Sides_outer, pr2_Sides_outer, ⟨_, pr3_Sides_outer⟩⟩,
    pr_Sides_inner := ⟨pr0_Sides_inner, pr1_Sides_inner, pr2_Sides_inner, ⟨_, pr3_Sides_inner⟩⟩,
    xt_InvalidKinds := ⟨mg_of X G m_InvalidKinds, .inr rfl, ⟨"ValueError", "ValueError.__new__", "ValueError.__init__", _, PySem.F.excBase_ValueError, PySem.F.store_ValueError, exi_InvalidKinds, exo_InvalidKinds⟩, ehd_InvalidKinds, etk_InvalidKinds, esa_InvalidKinds, ega_InvalidKinds, egg_InvalidKinds, eno_InvalidKinds, eii_InvalidKinds, eti_InvalidKinds, ekc_InvalidKinds, eex_InvalidKinds, ety_InvalidKinds, ⟨_, _, _, _, _, _, _, _, _, _, _, _, _, _, _, _, efl_InvalidKinds, efc_InvalidKinds⟩⟩,
    mk_Row := ⟨mk0_Row, mk1_Row, mk2_Row, mk3_Row⟩,
    xt_NotSides := ⟨mg_of X G m_NotSides, .inl rfl, ⟨"ValueError", "ValueError.__new__", "ValueError.__init__", _, PySem.F.excBase_ValueError, PySem.F.store_ValueError, exi_NotSides, exo_NotSides⟩, ehd_NotSides, etk_NotSides, esa_NotSides, ega_NotSides, egg_NotSides, eno_NotSides, eii_NotSides, eti_NotSides, ekc_NotSides, eex_NotSides, ety_NotSides, ⟨_, _, _, _, _, _, _, _, _, _, _, _, _, _, _, _, efl_NotSides, efc_NotSides⟩⟩,
    m_check_sides := mg_of X G m_check_sides,
    m_can_face := mg_of X G m_can_face,
    m_sides_can_be := mg_of X G m_sides_can_be,
    m_is_single := mg_of X G m_is_single,
    m_set_around := mg_of X G m_set_around,
    m_sides_one := mg_of X G m_sides_one,
    m_check_facing := mg_of X G m_check_facing,
    m_fitting_row := mg_of X G m_fitting_row,
    m_alone_row := mg_of X G m_alone_row,
    m_check_row := mg_of X G m_check_row,
    m_check_can := mg_of X G m_check_can,
    pr_Row_kinds := ⟨pr0_Row_kinds, pr1_Row_kinds, pr2_Row_kinds, ⟨_, pr3_Row_kinds⟩⟩,
    m_around := mg_of X G m_around,
    z_abs := mg_none_of X G z_abs,
    m__law_right := mg_of X G m__law_right,
    m__law_well := mg_of X G m__law_well,
    z_divmod := mg_none_of X G z_divmod,
    is_tuple := ⟨kit_ty (by decide +kernel), kit_ty (by decide +kernel), kit_ty (by decide +kernel), kit_ty (by decide +kernel), kit_ty (by decide +kernel), kit_ty (by decide +kernel), kit_ty (by decide +kernel), fun n b h => by
      have h : (if n < 20 then some false else none) = some b := h
      by_cases c : n < 20
      · rw [if_pos c] at h
        cases h
        by_cases c1 : n = 1
        · exact (fun (C : Addr) (e : C = C_Sides) => (by subst e; exact ⟨kit_mt km_Sides_tuple, tx_Sides, ⟨ca_Sides, cn, ct, co_Sides⟩⟩ : kitOne K (.ref C) (.type "tuple") = some false ∧ SlX.SCls K C ∧ SlX.SIsi K C)) _ (by show (if n = 20 then C_InvalidText else if n = 23 then C_InvalidNumber else if n = 28 then C_NotRow else if n = 29 then C_NotSides else if n = 30 then C_InvalidKinds else if n = 32 then C_InvalidInner else if n = 33 then C_InvalidOuter else if n = 38 then C_Cannot else if n = 39 then C_TooMany else if n = 40 then C_TooGreat else if n = 1 then C_Sides else C_Row) = C_Sides; rw [if_neg (by omega)]; rw [if_neg (by omega)]; rw [if_neg (by omega)]; rw [if_neg (by omega)]; rw [if_neg (by omega)]; rw [if_neg (by omega)]; rw [if_neg (by omega)]; rw [if_neg (by omega)]; rw [if_neg (by omega)]; rw [if_neg (by omega)]; rw [if_pos c1])
        exact (fun (C : Addr) (e : C = C_Row) => (by subst e; exact ⟨kit_mt km_Row_tuple, tx_Row, ⟨ca_Row, cn, ct, co_Row⟩⟩ : kitOne K (.ref C) (.type "tuple") = some false ∧ SlX.SCls K C ∧ SlX.SIsi K C)) _ (by show (if n = 20 then C_InvalidText else if n = 23 then C_InvalidNumber else if n = 28 then C_NotRow else if n = 29 then C_NotSides else if n = 30 then C_InvalidKinds else if n = 32 then C_InvalidInner else if n = 33 then C_InvalidOuter else if n = 38 then C_Cannot else if n = 39 then C_TooMany else if n = 40 then C_TooGreat else if n = 1 then C_Sides else C_Row) = C_Row; rw [if_neg (by omega)]; rw [if_neg (by omega)]; rw [if_neg (by omega)]; rw [if_neg (by omega)]; rw [if_neg (by omega)]; rw [if_neg (by omega)]; rw [if_neg (by omega)]; rw [if_neg (by omega)]; rw [if_neg (by omega)]; rw [if_neg (by omega)]; rw [if_neg (by omega)])
      · rw [if_neg c] at h
        cases h⟩,
    is_bool := ⟨kit_ty (by decide +kernel), kit_ty (by decide +kernel), kit_ty (by decide +kernel), kit_ty (by decide +kernel), kit_ty (by decide +kernel), kit_ty (by decide +kernel), kit_ty (by decide +kernel), fun n b h => by
      have h : (if n < 20 then some false else none) = some b := h
      by_cases c : n < 20
      · rw [if_pos c] at h
        cases h
        by_cases c1 : n = 1
        · exact (fun (C : Addr) (e : C = C_Sides) => (by subst e; exact ⟨kit_mt km_Sides_bool, tx_Sides, ⟨ca_Sides, cn, ct, co_Sides⟩⟩ : kitOne K (.ref C) (.type "bool") = some false ∧ SlX.SCls K C ∧ SlX.SIsi K C)) _ (by show (if n = 20 then C_InvalidText else if n = 23 then C_InvalidNumber else if n = 28 then C_NotRow else if n = 29 then C_NotSides else if n = 30 then C_InvalidKinds else if n = 32 then C_InvalidInner else if n = 33 then C_InvalidOuter else if n = 38 then C_Cannot else if n = 39 then C_TooMany else if n = 40 then C_TooGreat else if n = 1 then C_Sides else C_Row) = C_Sides; rw [if_neg (by omega)]; rw [if_neg (by omega)]; rw [if_neg (by omega)]; rw [if_neg (by omega)]; rw [if_neg (by omega)]; rw [if_neg (by omega)]; rw [if_neg (by omega)]; rw [if_neg (by omega)]; rw [if_neg (by omega)]; rw [if_neg (by omega)]; rw [if_pos c1])
        exact (fun (C : Addr) (e : C = C_Row) => (by subst e; exact ⟨kit_mt km_Row_bool, tx_Row, ⟨ca_Row, cn, ct, co_Row⟩⟩ : kitOne K (.ref C) (.type "bool") = some false ∧ SlX.SCls K C ∧ SlX.SIsi K C)) _ (by show (if n = 20 then C_InvalidText else if n = 23 then C_InvalidNumber else if n = 28 then C_NotRow else if n = 29 then C_NotSides else if n = 30 then C_InvalidKinds else if n = 32 then C_InvalidInner else if n = 33 then C_InvalidOuter else if n = 38 then C_Cannot else if n = 39 then C_TooMany else if n = 40 then C_TooGreat else if n = 1 then C_Sides else C_Row) = C_Row; rw [if_neg (by omega)]; rw [if_neg (by omega)]; rw [if_neg (by omega)]; rw [if_neg (by omega)]; rw [if_neg (by omega)]; rw [if_neg (by omega)]; rw [if_neg (by omega)]; rw [if_neg (by omega)]; rw [if_neg (by omega)]; rw [if_neg (by omega)]; rw [if_neg (by omega)])
      · rw [if_neg c] at h
        cases h⟩,
    is_int := ⟨kit_ty (by decide +kernel), kit_ty (by decide +kernel), kit_ty (by decide +kernel), kit_ty (by decide +kernel), kit_ty (by decide +kernel), kit_ty (by decide +kernel), kit_ty (by decide +kernel), fun n b h => by
      have h : (if n < 20 then some false else none) = some b := h
      by_cases c : n < 20
      · rw [if_pos c] at h
        cases h
        by_cases c1 : n = 1
        · exact (fun (C : Addr) (e : C = C_Sides) => (by subst e; exact ⟨kit_mt km_Sides_int, tx_Sides, ⟨ca_Sides, cn, ct, co_Sides⟩⟩ : kitOne K (.ref C) (.type "int") = some false ∧ SlX.SCls K C ∧ SlX.SIsi K C)) _ (by show (if n = 20 then C_InvalidText else if n = 23 then C_InvalidNumber else if n = 28 then C_NotRow else if n = 29 then C_NotSides else if n = 30 then C_InvalidKinds else if n = 32 then C_InvalidInner else if n = 33 then C_InvalidOuter else if n = 38 then C_Cannot else if n = 39 then C_TooMany else if n = 40 then C_TooGreat else if n = 1 then C_Sides else C_Row) = C_Sides; rw [if_neg (by omega)]; rw [if_neg (by omega)]; rw [if_neg (by omega)]; rw [if_neg (by omega)]; rw [if_neg (by omega)]; rw [if_neg (by omega)]; rw [if_neg (by omega)]; rw [if_neg (by omega)]; rw [if_neg (by omega)]; rw [if_neg (by omega)]; rw [if_pos c1])
        exact (fun (C : Addr) (e : C = C_Row) => (by subst e; exact ⟨kit_mt km_Row_int, tx_Row, ⟨ca_Row, cn, ct, co_Row⟩⟩ : kitOne K (.ref C) (.type "int") = some false ∧ SlX.SCls K C ∧ SlX.SIsi K C)) _ (by show (if n = 20 then C_InvalidText else if n = 23 then C_InvalidNumber else if n = 28 then C_NotRow else if n = 29 then C_NotSides else if n = 30 then C_InvalidKinds else if n = 32 then C_InvalidInner else if n = 33 then C_InvalidOuter else if n = 38 then C_Cannot else if n = 39 then C_TooMany else if n = 40 then C_TooGreat else if n = 1 then C_Sides else C_Row) = C_Row; rw [if_neg (by omega)]; rw [if_neg (by omega)]; rw [if_neg (by omega)]; rw [if_neg (by omega)]; rw [if_neg (by omega)]; rw [if_neg (by omega)]; rw [if_neg (by omega)]; rw [if_neg (by omega)]; rw [if_neg (by omega)]; rw [if_neg (by omega)]; rw [if_neg (by omega)])
      · rw [if_neg c] at h
        cases h⟩,
    is_Sides := ⟨kit_tm ic_Sides ty_Sides, kit_tm ic_Sides ty_Sides, kit_tm ic_Sides ty_Sides, kit_tm ic_Sides ty_Sides, kit_tm ic_Sides ty_Sides, kit_tm ic_Sides ty_Sides, kit_tm ic_Sides ty_Sides, fun n b h => match n, h with | 0, h => by cases h; exact ⟨kit_mm kr_Row km_Row_Sides ic_Sides ty_Sides, tx_Row, ⟨ca_Row, cn, ct, co_Row⟩⟩ | 1, h => by cases h; exact ⟨kit_me, tx_Sides, ⟨ca_Sides, cn, ct, co_Sides⟩⟩ | _ + 2, h => by cases h⟩,
    is_Row := ⟨kit_tm ic_Row ty_Row, kit_tm ic_Row ty_Row, kit_tm ic_Row ty_Row, kit_tm ic_Row ty_Row, kit_tm ic_Row ty_Row, kit_tm ic_Row ty_Row, kit_tm ic_Row ty_Row, fun n b h => match n, h with | 0, h => by cases h; exact ⟨kit_me, tx_Row, ⟨ca_Row, cn, ct, co_Row⟩⟩ | 1, h => by cases h; exact ⟨kit_mm kr_Sides km_Sides_Row ic_Row ty_Row, tx_Sides, ⟨ca_Sides, cn, ct, co_Sides⟩⟩ | _ + 2, h => by cases h⟩,
    fu__law_draw := fun_mk (st := st__law_draw) fl__law_draw fc__law_draw fk__law_draw,
    fu__law_pick := fun_mk (st := st__law_pick) fl__law_pick fc__law_pick fk__law_pick,
    fu__law_great := fun_mk (st := st__law_great) fl__law_great fc__law_great fk__law_great,
    fu__law_some := fun_mk (st := st__law_some) fl__law_some fc__law_some fk__law_some,
    fu__law_is_lot := fun_mk (st := st__law_is_lot) fl__law_is_lot fc__law_is_lot fk__law_is_lot,
    fu__law_wrong := fun_mk (st := st__law_wrong) fl__law_wrong fc__law_wrong fk__law_wrong,
    fu_Sides___repr__ := fun_mk (st := st_Sides___repr__) fl_Sides___repr__ fc_Sides___repr__ fk_Sides___repr__,
    fu_Row___repr__ := fun_mk (st := st_Row___repr__) fl_Row___repr__ fc_Row___repr__ fk_Row___repr__,
    fu__law_caught := fun_mk (st := st__law_caught) fl__law_caught fc__law_caught fk__law_caught,
    fu_is_integer := fun_mk (st := st_is_integer) fl_is_integer fc_is_integer fk_is_integer,
    fu_is_count := fun_mk (st := st_is_count) fl_is_count fc_is_count fk_is_count,
    fu_is_kind := fun_mk (st := st_is_kind) fl_is_kind fc_is_kind fk_is_kind,
    fu_wrong_kind := fun_mk (st := st_wrong_kind) fl_wrong_kind fc_wrong_kind fk_wrong_kind,
    fu_Sides___init__ := fun_mk (st := st_Sides___init__) fl_Sides___init__ fc_Sides___init__ fk_Sides___init__,
    fu_Sides___eq__ := fun_mk (st := st_Sides___eq__) fl_Sides___eq__ fc_Sides___eq__ fk_Sides___eq__,
    fu_Row___eq__ := fun_mk (st := st_Row___eq__) fl_Row___eq__ fc_Row___eq__ fk_Row___eq__,
    fu_Sides_outer := fun_mk (st := st_Sides_outer) fl_Sides_outer fc_Sides_outer fk_Sides_outer,
    fu_Sides_inner := fun_mk (st := st_Sides_inner) fl_Sides_inner fc_Sides_inner fk_Sides_inner,
    fu_Row___init__ := fun_mk (st := st_Row___init__) fl_Row___init__ fc_Row___init__ fk_Row___init__,
    fu_check_sides := fun_mk (st := st_check_sides) fl_check_sides fc_check_sides fk_check_sides,
    fu_can_face := fun_mk (st := st_can_face) fl_can_face fc_can_face fk_can_face,
    fu_sides_can_be := fun_mk (st := st_sides_can_be) fl_sides_can_be fc_sides_can_be fk_sides_can_be,
    fu_is_single := fun_mk (st := st_is_single) fl_is_single fc_is_single fk_is_single,
    fu_set_around := fun_mk (st := st_set_around) fl_set_around fc_set_around fk_set_around,
    fu_sides_one := fun_mk (st := st_sides_one) fl_sides_one fc_sides_one fk_sides_one,
    fu_check_facing := fun_mk (st := st_check_facing) fl_check_facing fc_check_facing fk_check_facing,
    fu_fitting_row := fun_mk (st := st_fitting_row) fl_fitting_row fc_fitting_row fk_fitting_row,
    fu_alone_row := fun_mk (st := st_alone_row) fl_alone_row fc_alone_row fk_alone_row,
    fu_check_row := fun_mk (st := st_check_row) fl_check_row fc_check_row fk_check_row,
    fu_check_can := fun_mk (st := st_check_can) fl_check_can fc_check_can fk_check_can,
    fu_Row_kinds := fun_mk (st := st_Row_kinds) fl_Row_kinds fc_Row_kinds fk_Row_kinds,
    fu_around := fun_mk (st := st_around) fl_around fc_around fk_around,
    fu__law_right := fun_mk (st := st__law_right) fl__law_right fc__law_right fk__law_right,
    fu__law_well := fun_mk (st := st__law_well) fl__law_well fc__law_well fk__law_well,
    fu_law := fun_mk (st := st_law) fl_law fc_law fk_law }
  exact ⟨txOf A K, A.d_law, rfl, rfl, fun s v => .of_eq rfl, fun base _ _ tb => ok_law ⟨tx, tb⟩⟩
end Dc
set_option maxHeartbeats 0
open PySem PySem.W PyProof.Rows
open_top head for PySem.Challenge.rw_degreerows_k33_sides_made_and_refused
theorem PySem.Challenge.cw_degreerows_k33_sides_made_and_refused_holds : PySem.Challenge.rw_degreerows_k33_sides_made_and_refused.Holds := by
  refine head ?_
  k_fill
  refine' Dc.walk_GM (l := PySem.Challenge.rw_degreerows_k33_sides_made_and_refused) (n := 63) (k := 11) (x := "script") [(_, _, Dc.nm__law_right)] rfl (by decide) rfl ⟨rfl, by decide, by decide⟩ ?hY ?hT ?F
  case F =>
    intro w mg fa h KX G hmg
    refine' Dc.all_mk KX G hmg ?m_law ?m_Row ?m_Sides ?m__law_draw ?m__law_pick ?m__law_great ?m__law_some ?m__law_is_lot ?m__law_wrong ?m_WrongValue ?m_WrongName ?m_NotPossible ?m__law_caught ?m_NotSides ?m_InvalidOuter ?m_InvalidInner ?m_is_integer ?m_is_count ?m_is_kind ?m_wrong_kind ?m_InvalidKinds ?m_check_sides ?m_can_face ?m_sides_can_be ?m_is_single ?m_set_around ?m_sides_one ?m_check_facing ?m_fitting_row ?m_alone_row ?m_check_row ?m_check_can ?m_around ?m__law_right ?m__law_well ?m_InvalidText ?m_InvalidNumber ?m_NotRow ?m_Cannot ?m_TooMany ?m_TooGreat ?pg_Row ?ic_Row ?po_Row ?sa_Row ?pg_Sides ?ic_Sides ?po_Sides ?sa_Sides ?z_all ?z_range ?z_max ?z_min ?z_len ?z_int ?z_list ?z_tuple ?z_isinstance ?z_bool ?z_str ?ehd_TooGreat ?esa_TooGreat ?ega_TooGreat ?egg_TooGreat ?eno_TooGreat ?eex_TooGreat ?ety_TooGreat ?bex_WrongValue ?bhd_WrongValue ?bty_WrongValue ?bsu_TooGreat_WrongValue ?bex_WrongName ?bhd_WrongName ?bty_WrongName ?bsu_TooGreat_WrongName ?bex_NotPossible ?bhd_NotPossible ?bty_NotPossible ?bsu_TooGreat_NotPossible ?ehd_TooMany ?esa_TooMany ?ega_TooMany ?egg_TooMany ?eno_TooMany ?eex_TooMany ?ety_TooMany ?bsu_TooMany_WrongValue ?bsu_TooMany_WrongName ?bsu_TooMany_NotPossible ?ehd_Cannot ?esa_Cannot ?ega_Cannot ?egg_Cannot ?eno_Cannot ?eex_Cannot ?ety_Cannot ?bsu_Cannot_WrongValue ?bsu_Cannot_WrongName ?bsu_Cannot_NotPossible ?ehd_InvalidOuter ?esa_InvalidOuter ?ega_InvalidOuter ?egg_InvalidOuter ?eno_InvalidOuter ?eex_InvalidOuter ?ety_InvalidOuter ?bsu_InvalidOuter_WrongValue ?bsu_InvalidOuter_WrongName ?bsu_InvalidOuter_NotPossible ?ehd_InvalidInner ?esa_InvalidInner ?ega_InvalidInner ?egg_InvalidInner ?eno_InvalidInner ?eex_InvalidInner ?ety_InvalidInner ?bsu_InvalidInner_WrongValue ?bsu_InvalidInner_WrongName ?bsu_InvalidInner_NotPossible ?ehd_InvalidKinds ?esa_InvalidKinds ?ega_InvalidKinds ?egg_InvalidKinds ?eno_InvalidKinds ?eex_InvalidKinds ?ety_InvalidKinds ?bsu_InvalidKinds_WrongValue ?bsu_InvalidKinds_WrongName ?bsu_InvalidKinds_NotPossible ?ehd_NotSides ?esa_NotSides ?ega_NotSides ?egg_NotSides ?eno_NotSides ?eex_NotSides ?ety_NotSides ?bsu_NotSides_WrongValue ?bsu_NotSides_WrongName ?bsu_NotSides_NotPossible ?ehd_NotRow ?esa_NotRow ?ega_NotRow ?egg_NotRow ?eno_NotRow ?eex_NotRow ?ety_NotRow ?bsu_NotRow_WrongValue ?bsu_NotRow_WrongName ?bsu_NotRow_NotPossible ?ehd_InvalidNumber ?esa_InvalidNumber ?ega_InvalidNumber ?egg_InvalidNumber ?eno_InvalidNumber ?eex_InvalidNumber ?ety_InvalidNumber ?bsu_InvalidNumber_WrongValue ?bsu_InvalidNumber_WrongName ?bsu_InvalidNumber_NotPossible ?ehd_InvalidText ?esa_InvalidText ?ega_InvalidText ?egg_InvalidText ?eno_InvalidText ?eex_InvalidText ?ety_InvalidText ?bsu_InvalidText_WrongValue ?bsu_InvalidText_WrongName ?bsu_InvalidText_NotPossible ?ca_TooGreat ?cn ?ct ?co_TooGreat ?ca_TooMany ?co_TooMany ?ca_Cannot ?co_Cannot ?ca_InvalidOuter ?co_InvalidOuter ?ca_InvalidInner ?co_InvalidInner ?ca_InvalidKinds ?co_InvalidKinds ?ca_NotSides ?co_NotSides ?ca_NotRow ?co_NotRow ?ca_InvalidNumber ?co_InvalidNumber ?ca_InvalidText ?co_InvalidText ?km_TooGreat_NotSides ?ic_NotSides ?kr_TooGreat ?km_TooMany_NotSides ?kr_TooMany ?km_Cannot_NotSides ?kr_Cannot ?km_InvalidOuter_NotSides ?kr_InvalidOuter ?km_InvalidInner_NotSides ?kr_InvalidInner ?km_InvalidKinds_NotSides ?kr_InvalidKinds ?km_NotRow_NotSides ?kr_NotRow ?km_InvalidNumber_NotSides ?kr_InvalidNumber ?km_InvalidText_NotSides ?kr_InvalidText ?km_TooGreat_InvalidOuter ?ic_InvalidOuter ?km_TooMany_InvalidOuter ?km_Cannot_InvalidOuter ?km_InvalidInner_InvalidOuter ?km_InvalidKinds_InvalidOuter ?km_NotSides_InvalidOuter ?kr_NotSides ?km_NotRow_InvalidOuter ?km_InvalidNumber_InvalidOuter ?km_InvalidText_InvalidOuter ?km_TooGreat_InvalidInner ?ic_InvalidInner ?km_TooMany_InvalidInner ?km_Cannot_InvalidInner ?km_InvalidOuter_InvalidInner ?km_InvalidKinds_InvalidInner ?km_NotSides_InvalidInner ?km_NotRow_InvalidInner ?km_InvalidNumber_InvalidInner ?km_InvalidText_InvalidInner ?z_ValueError ?km_TooGreat_ValueError ?km_TooMany_ValueError ?km_Cannot_ValueError ?km_InvalidOuter_ValueError ?km_InvalidInner_ValueError ?km_InvalidKinds_ValueError ?km_NotSides_ValueError ?km_NotRow_ValueError ?km_InvalidNumber_ValueError ?km_InvalidText_ValueError ?sa1_near ?sa2_near ?sa3_near ?sa4_near ?sa5_near ?sa1_far ?sa2_far ?sa3_far ?sa4_far ?sa5_far ?me0_Sides___repr__ ?me1_Sides___repr__ ?sa1_shape ?sa2_shape ?sa3_shape ?sa4_shape ?sa5_shape ?me0_Row___repr__ ?me1_Row___repr__ ?z_repr ?z_enumerate ?c_MOST_KINDS ?c_MOST_DEGREE ?c_MOST_COUNT ?exi_InvalidInner ?exo_InvalidInner ?etk_InvalidInner ?eii_InvalidInner ?eti_InvalidInner ?ekc_InvalidInner ?efl_InvalidInner ?efc_InvalidInner ?exi_InvalidOuter ?exo_InvalidOuter ?etk_InvalidOuter ?eii_InvalidOuter ?eti_InvalidOuter ?ekc_InvalidOuter ?efl_InvalidOuter ?efc_InvalidOuter ?mk0_Sides ?mk1_Sides ?mk2_Sides ?mk3_Sides ?me0_Sides___eq__ ?me1_Sides___eq__ ?ne_Sides ?co_Sides ?me0_Row___eq__ ?me1_Row___eq__ ?ne_Row ?co_Row ?pr0_Sides_outer ?pr1_Sides_outer ?pr2_Sides_outer ?pr3_Sides_outer ?pr0_Sides_inner ?pr1_Sides_inner ?pr2_Sides_inner ?pr3_Sides_inner ?exi_InvalidKinds ?exo_InvalidKinds ?etk_InvalidKinds ?eii_InvalidKinds ?eti_InvalidKinds ?ekc_InvalidKinds ?efl_InvalidKinds ?efc_InvalidKinds ?mk0_Row ?mk1_Row ?mk2_Row ?mk3_Row ?exi_NotSides ?exo_NotSides ?etk_NotSides ?eii_NotSides ?eti_NotSides ?ekc_NotSides ?efl_NotSides ?efc_NotSides ?pr0_Row_kinds ?pr1_Row_kinds ?pr2_Row_kinds ?pr3_Row_kinds ?z_abs ?z_divmod ?km_Row_tuple ?ca_Row ?km_Sides_tuple ?ca_Sides ?km_Row_bool ?km_Sides_bool ?km_Row_int ?km_Sides_int ?ty_Sides ?kr_Row ?km_Row_Sides ?ty_Row ?kr_Sides ?km_Sides_Row ?fl__law_draw ?fc__law_draw ?fk__law_draw ?fl__law_pick ?fc__law_pick ?fk__law_pick ?fl__law_great ?fc__law_great ?fk__law_great ?fl__law_some ?fc__law_some ?fk__law_some ?fl__law_is_lot ?fc__law_is_lot ?fk__law_is_lot ?fl__law_wrong ?fc__law_wrong ?fk__law_wrong ?fl_Sides___repr__ ?fc_Sides___repr__ ?fk_Sides___repr__ ?fl_Row___repr__ ?fc_Row___repr__ ?fk_Row___repr__ ?fl__law_caught ?fc__law_caught ?fk__law_caught ?fl_is_integer ?fc_is_integer ?fk_is_integer ?fl_is_count ?fc_is_count ?fk_is_count ?fl_is_kind ?fc_is_kind ?fk_is_kind ?fl_wrong_kind ?fc_wrong_kind ?fk_wrong_kind ?fl_Sides___init__ ?fc_Sides___init__ ?fk_Sides___init__ ?fl_Sides___eq__ ?fc_Sides___eq__ ?fk_Sides___eq__ ?fl_Row___eq__ ?fc_Row___eq__ ?fk_Row___eq__ ?fl_Sides_outer ?fc_Sides_outer ?fk_Sides_outer ?fl_Sides_inner ?fc_Sides_inner ?fk_Sides_inner ?fl_Row___init__ ?fc_Row___init__ ?fk_Row___init__ ?fl_check_sides ?fc_check_sides ?fk_check_sides ?fl_can_face ?fc_can_face ?fk_can_face ?fl_sides_can_be ?fc_sides_can_be ?fk_sides_can_be ?fl_is_single ?fc_is_single ?fk_is_single ?fl_set_around ?fc_set_around ?fk_set_around ?fl_sides_one ?fc_sides_one ?fk_sides_one ?fl_check_facing ?fc_check_facing ?fk_check_facing ?fl_fitting_row ?fc_fitting_row ?fk_fitting_row ?fl_alone_row ?fc_alone_row ?fk_alone_row ?fl_check_row ?fc_check_row ?fk_check_row ?fl_check_can ?fc_check_can ?fk_check_can ?fl_Row_kinds ?fc_Row_kinds ?fk_Row_kinds ?fl_around ?fc_around ?fk_around ?fl__law_right ?fc__law_right ?hv__law_right ?hl__law_right ?fk__law_right ?fl__law_well ?fc__law_well ?fk__law_well ?fl_law ?fc_law ?fk_law ?eii_InvalidText ?eii_InvalidNumber ?eii_NotRow ?eii_Cannot ?eii_TooMany ?eii_TooGreat
    (case m_law => first | k_is | kx_is | kernel_rfl)
    (case m_Row => first | k_is | kx_is | kernel_rfl)
    (case m_Sides => first | k_is | kx_is | kernel_rfl)
    (case m__law_draw => first | k_is | kx_is | kernel_rfl)
    (case m__law_pick => first | k_is | kx_is | kernel_rfl)
    (case m__law_great => first | k_is | kx_is | kernel_rfl)
    (case m__law_some => first | k_is | kx_is | kernel_rfl)
    (case m__law_is_lot => first | k_is | kx_is | kernel_rfl)
    (case m__law_wrong => first | k_is | kx_is | kernel_rfl)
    (case m_WrongValue => first | k_is | kx_is | kernel_rfl)
    (case m_WrongName => first | k_is | kx_is | kernel_rfl)
    (case m_NotPossible => first | k_is | kx_is | kernel_rfl)
    (case m__law_caught => first | k_is | kx_is | kernel_rfl)
    (case m_NotSides => first | k_is | kx_is | kernel_rfl)
    (case m_InvalidOuter => first | k_is | kx_is | kernel_rfl)
    (case m_InvalidInner => first | k_is | kx_is | kernel_rfl)
    (case m_is_integer => first | k_is | kx_is | kernel_rfl)
    (case m_is_count => first | k_is | kx_is | kernel_rfl)
    (case m_is_kind => first | k_is | kx_is | kernel_rfl)
    (case m_wrong_kind => first | k_is | kx_is | kernel_rfl)
    (case m_InvalidKinds => first | k_is | kx_is | kernel_rfl)
    (case m_check_sides => first | k_is | kx_is | kernel_rfl)
    (case m_can_face => first | k_is | kx_is | kernel_rfl)
    (case m_sides_can_be => first | k_is | kx_is | kernel_rfl)
    (case m_is_single => first | k_is | kx_is | kernel_rfl)
    (case m_set_around => first | k_is | kx_is | kernel_rfl)
    (case m_sides_one => first | k_is | kx_is | kernel_rfl)
    (case m_check_facing => first | k_is | kx_is | kernel_rfl)
    (case m_fitting_row => first | k_is | kx_is | kernel_rfl)
    (case m_alone_row => first | k_is | kx_is | kernel_rfl)
    (case m_check_row => first | k_is | kx_is | kernel_rfl)
    (case m_check_can => first | k_is | kx_is | kernel_rfl)
    (case m_around => first | k_is | kx_is | kernel_rfl)
    (case m__law_right => first | k_is | kx_is | kernel_rfl)
    (case m__law_well => first | k_is | kx_is | kernel_rfl)
    (case m_InvalidText => first | k_is | kx_is | kernel_rfl)
    (case m_InvalidNumber => first | k_is | kx_is | kernel_rfl)
    (case m_NotRow => first | k_is | kx_is | kernel_rfl)
    (case m_Cannot => first | k_is | kx_is | kernel_rfl)
    (case m_TooMany => first | k_is | kx_is | kernel_rfl)
    (case m_TooGreat => first | k_is | kx_is | kernel_rfl)
    (case pg_Row => first | k_is | kx_is | kernel_rfl)
    (case ic_Row => first | k_is | kx_is | kernel_rfl)
    (case po_Row => first | k_is | kx_is | kernel_rfl)
    (case sa_Row => first | k_is | kx_is | kernel_rfl)
    (case pg_Sides => first | k_is | kx_is | kernel_rfl)
    (case ic_Sides => first | k_is | kx_is | kernel_rfl)
    (case po_Sides => first | k_is | kx_is | kernel_rfl)
    (case sa_Sides => first | k_is | kx_is | kernel_rfl)
    (case z_all => first | k_is | kx_is | kernel_rfl)
    (case z_range => first | k_is | kx_is | kernel_rfl)
    (case z_max => first | k_is | kx_is | kernel_rfl)
    (case z_min => first | k_is | kx_is | kernel_rfl)
    (case z_len => first | k_is | kx_is | kernel_rfl)
    (case z_int => first | k_is | kx_is | kernel_rfl)
    (case z_list => first | k_is | kx_is | kernel_rfl)
    (case z_tuple => first | k_is | kx_is | kernel_rfl)
    (case z_isinstance => first | k_is | kx_is | kernel_rfl)
    (case z_bool => first | k_is | kx_is | kernel_rfl)
    (case z_str => first | k_is | kx_is | kernel_rfl)
    (case ehd_TooGreat => first | k_is | kx_is | kernel_rfl)
    (case esa_TooGreat => first | k_is | kx_is | kernel_rfl)
    (case ega_TooGreat => first | k_is | kx_is | kernel_rfl)
    (case egg_TooGreat => first | k_is | kx_is | kernel_rfl)
    (case eno_TooGreat => first | k_is | kx_is | kernel_rfl)
    (case eex_TooGreat => first | k_is | kx_is | kernel_rfl)
    (case ety_TooGreat => first | k_is | kx_is | kernel_rfl)
    (case bex_WrongValue => first | k_is | kx_is | kernel_rfl)
    (case bhd_WrongValue => first | k_is | kx_is | kernel_rfl)
    (case bty_WrongValue => first | k_is | kx_is | kernel_rfl)
    (case bsu_TooGreat_WrongValue => first | k_is | kx_is | kernel_rfl)
    (case bex_WrongName => first | k_is | kx_is | kernel_rfl)
    (case bhd_WrongName => first | k_is | kx_is | kernel_rfl)
    (case bty_WrongName => first | k_is | kx_is | kernel_rfl)
    (case bsu_TooGreat_WrongName => first | k_is | kx_is | kernel_rfl)
    (case bex_NotPossible => first | k_is | kx_is | kernel_rfl)
    (case bhd_NotPossible => first | k_is | kx_is | kernel_rfl)
    (case bty_NotPossible => first | k_is | kx_is | kernel_rfl)
    (case bsu_TooGreat_NotPossible => first | k_is | kx_is | kernel_rfl)
    (case ehd_TooMany => first | k_is | kx_is | kernel_rfl)
    (case esa_TooMany => first | k_is | kx_is | kernel_rfl)
    (case ega_TooMany => first | k_is | kx_is | kernel_rfl)
    (case egg_TooMany => first | k_is | kx_is | kernel_rfl)
    (case eno_TooMany => first | k_is | kx_is | kernel_rfl)
    (case eex_TooMany => first | k_is | kx_is | kernel_rfl)
    (case ety_TooMany => first | k_is | kx_is | kernel_rfl)
    (case bsu_TooMany_WrongValue => first | k_is | kx_is | kernel_rfl)
    (case bsu_TooMany_WrongName => first | k_is | kx_is | kernel_rfl)
    (case bsu_TooMany_NotPossible => first | k_is | kx_is | kernel_rfl)
    (case ehd_Cannot => first | k_is | kx_is | kernel_rfl)
    (case esa_Cannot => first | k_is | kx_is | kernel_rfl)
    (case ega_Cannot => first | k_is | kx_is | kernel_rfl)
    (case egg_Cannot => first | k_is | kx_is | kernel_rfl)
    (case eno_Cannot => first | k_is | kx_is | kernel_rfl)
    (case eex_Cannot => first | k_is | kx_is | kernel_rfl)
    (case ety_Cannot => first | k_is | kx_is | kernel_rfl)
    (case bsu_Cannot_WrongValue => first | k_is | kx_is | kernel_rfl)
    (case bsu_Cannot_WrongName => first | k_is | kx_is | kernel_rfl)
    (case bsu_Cannot_NotPossible => first | k_is | kx_is | kernel_rfl)
    (case ehd_InvalidOuter => first | k_is | kx_is | kernel_rfl)
    (case esa_InvalidOuter => first | k_is | kx_is | kernel_rfl)
    (case ega_InvalidOuter => first | k_is | kx_is | kernel_rfl)
    (case egg_InvalidOuter => first | k_is | kx_is | kernel_rfl)
    (case eno_InvalidOuter => first | k_is | kx_is | kernel_rfl)
    (case eex_InvalidOuter => first | k_is | kx_is | kernel_rfl)
    (case ety_InvalidOuter => first | k_is | kx_is | kernel_rfl)
    (case bsu_InvalidOuter_WrongValue => first | k_is | kx_is | kernel_rfl)
    (case bsu_InvalidOuter_WrongName => first | k_is | kx_is | kernel_rfl)
    (case bsu_InvalidOuter_NotPossible => first | k_is | kx_is | kernel_rfl)
    (case ehd_InvalidInner => first | k_is | kx_is | kernel_rfl)
    (case esa_InvalidInner => first | k_is | kx_is | kernel_rfl)
    (case ega_InvalidInner => first | k_is | kx_is | kernel_rfl)
    (case egg_InvalidInner => first | k_is | kx_is | kernel_rfl)
    (case eno_InvalidInner => first | k_is | kx_is | kernel_rfl)
    (case eex_InvalidInner => first | k_is | kx_is | kernel_rfl)
    (case ety_InvalidInner => first | k_is | kx_is | kernel_rfl)
    (case bsu_InvalidInner_WrongValue => first | k_is | kx_is | kernel_rfl)
    (case bsu_InvalidInner_WrongName => first | k_is | kx_is | kernel_rfl)
    (case bsu_InvalidInner_NotPossible => first | k_is | kx_is | kernel_rfl)
    (case ehd_InvalidKinds => first | k_is | kx_is | kernel_rfl)
    (case esa_InvalidKinds => first | k_is | kx_is | kernel_rfl)
    (case ega_InvalidKinds => first | k_is | kx_is | kernel_rfl)
    (case egg_InvalidKinds => first | k_is | kx_is | kernel_rfl)
    (case eno_InvalidKinds => first | k_is | kx_is | kernel_rfl)
    (case eex_InvalidKinds => first | k_is | kx_is | kernel_rfl)
    (case ety_InvalidKinds => first | k_is | kx_is | kernel_rfl)
    (case bsu_InvalidKinds_WrongValue => first | k_is | kx_is | kernel_rfl)
    (case bsu_InvalidKinds_WrongName => first | k_is | kx_is | kernel_rfl)
    (case bsu_InvalidKinds_NotPossible => first | k_is | kx_is | kernel_rfl)
    (case ehd_NotSides => first | k_is | kx_is | kernel_rfl)
    (case esa_NotSides => first | k_is | kx_is | kernel_rfl)
    (case ega_NotSides => first | k_is | kx_is | kernel_rfl)
    (case egg_NotSides => first | k_is | kx_is | kernel_rfl)
    (case eno_NotSides => first | k_is | kx_is | kernel_rfl)
    (case eex_NotSides => first | k_is | kx_is | kernel_rfl)
    (case ety_NotSides => first | k_is | kx_is | kernel_rfl)
    (case bsu_NotSides_WrongValue => first | k_is | kx_is | kernel_rfl)
    (case bsu_NotSides_WrongName => first | k_is | kx_is | kernel_rfl)
    (case bsu_NotSides_NotPossible => first | k_is | kx_is | kernel_rfl)
    (case ehd_NotRow => first | k_is | kx_is | kernel_rfl)
    (case esa_NotRow => first | k_is | kx_is | kernel_rfl)
    (case ega_NotRow => first | k_is | kx_is | kernel_rfl)
    (case egg_NotRow => first | k_is | kx_is | kernel_rfl)
    (case eno_NotRow => first | k_is | kx_is | kernel_rfl)
    (case eex_NotRow => first | k_is | kx_is | kernel_rfl)
    (case ety_NotRow => first | k_is | kx_is | kernel_rfl)
    (case bsu_NotRow_WrongValue => first | k_is | kx_is | kernel_rfl)
    (case bsu_NotRow_WrongName => first | k_is | kx_is | kernel_rfl)
    (case bsu_NotRow_NotPossible => first | k_is | kx_is | kernel_rfl)
    (case ehd_InvalidNumber => first | k_is | kx_is | kernel_rfl)
    (case esa_InvalidNumber => first | k_is | kx_is | kernel_rfl)
    (case ega_InvalidNumber => first | k_is | kx_is | kernel_rfl)
    (case egg_InvalidNumber => first | k_is | kx_is | kernel_rfl)
    (case eno_InvalidNumber => first | k_is | kx_is | kernel_rfl)
    (case eex_InvalidNumber => first | k_is | kx_is | kernel_rfl)
    (case ety_InvalidNumber => first | k_is | kx_is | kernel_rfl)
    (case bsu_InvalidNumber_WrongValue => first | k_is | kx_is | kernel_rfl)
    (case bsu_InvalidNumber_WrongName => first | k_is | kx_is | kernel_rfl)
    (case bsu_InvalidNumber_NotPossible => first | k_is | kx_is | kernel_rfl)
    (case ehd_InvalidText => first | k_is | kx_is | kernel_rfl)
    (case esa_InvalidText => first | k_is | kx_is | kernel_rfl)
    (case ega_InvalidText => first | k_is | kx_is | kernel_rfl)
    (case egg_InvalidText => first | k_is | kx_is | kernel_rfl)
    (case eno_InvalidText => first | k_is | kx_is | kernel_rfl)
    (case eex_InvalidText => first | k_is | kx_is | kernel_rfl)
    (case ety_InvalidText => first | k_is | kx_is | kernel_rfl)
    (case bsu_InvalidText_WrongValue => first | k_is | kx_is | kernel_rfl)
    (case bsu_InvalidText_WrongName => first | k_is | kx_is | kernel_rfl)
    (case bsu_InvalidText_NotPossible => first | k_is | kx_is | kernel_rfl)
    (case ca_TooGreat => first | k_is | kx_is | kernel_rfl)
    (case cn => first | k_is | kx_is | kernel_rfl)
    (case ct => first | k_is | kx_is | kernel_rfl)
    (case co_TooGreat => first | k_is | kx_is | kernel_rfl)
    (case ca_TooMany => first | k_is | kx_is | kernel_rfl)
    (case co_TooMany => first | k_is | kx_is | kernel_rfl)
    (case ca_Cannot => first | k_is | kx_is | kernel_rfl)
    (case co_Cannot => first | k_is | kx_is | kernel_rfl)
    (case ca_InvalidOuter => first | k_is | kx_is | kernel_rfl)
    (case co_InvalidOuter => first | k_is | kx_is | kernel_rfl)
    (case ca_InvalidInner => first | k_is | kx_is | kernel_rfl)
    (case co_InvalidInner => first | k_is | kx_is | kernel_rfl)
    (case ca_InvalidKinds => first | k_is | kx_is | kernel_rfl)
    (case co_InvalidKinds => first | k_is | kx_is | kernel_rfl)
    (case ca_NotSides => first | k_is | kx_is | kernel_rfl)
    (case co_NotSides => first | k_is | kx_is | kernel_rfl)
    (case ca_NotRow => first | k_is | kx_is | kernel_rfl)
    (case co_NotRow => first | k_is | kx_is | kernel_rfl)
    (case ca_InvalidNumber => first | k_is | kx_is | kernel_rfl)
    (case co_InvalidNumber => first | k_is | kx_is | kernel_rfl)
    (case ca_InvalidText => first | k_is | kx_is | kernel_rfl)
    (case co_InvalidText => first | k_is | kx_is | kernel_rfl)
    (case km_TooGreat_NotSides => first | k_is | kx_is | kernel_rfl)
    (case ic_NotSides => first | k_is | kx_is | kernel_rfl)
    (case kr_TooGreat => first | k_is | kx_is | kernel_rfl)
    (case km_TooMany_NotSides => first | k_is | kx_is | kernel_rfl)
    (case kr_TooMany => first | k_is | kx_is | kernel_rfl)
    (case km_Cannot_NotSides => first | k_is | kx_is | kernel_rfl)
    (case kr_Cannot => first | k_is | kx_is | kernel_rfl)
    (case km_InvalidOuter_NotSides => first | k_is | kx_is | kernel_rfl)
    (case kr_InvalidOuter => first | k_is | kx_is | kernel_rfl)
    (case km_InvalidInner_NotSides => first | k_is | kx_is | kernel_rfl)
    (case kr_InvalidInner => first | k_is | kx_is | kernel_rfl)
    (case km_InvalidKinds_NotSides => first | k_is | kx_is | kernel_rfl)
    (case kr_InvalidKinds => first | k_is | kx_is | kernel_rfl)
    (case km_NotRow_NotSides => first | k_is | kx_is | kernel_rfl)
    (case kr_NotRow => first | k_is | kx_is | kernel_rfl)
    (case km_InvalidNumber_NotSides => first | k_is | kx_is | kernel_rfl)
    (case kr_InvalidNumber => first | k_is | kx_is | kernel_rfl)
    (case km_InvalidText_NotSides => first | k_is | kx_is | kernel_rfl)
    (case kr_InvalidText => first | k_is | kx_is | kernel_rfl)
    (case km_TooGreat_InvalidOuter => first | k_is | kx_is | kernel_rfl)
    (case ic_InvalidOuter => first | k_is | kx_is | kernel_rfl)
    (case km_TooMany_InvalidOuter => first | k_is | kx_is | kernel_rfl)
    (case km_Cannot_InvalidOuter => first | k_is | kx_is | kernel_rfl)
    (case km_InvalidInner_InvalidOuter => first | k_is | kx_is | kernel_rfl)
    (case km_InvalidKinds_InvalidOuter => first | k_is | kx_is | kernel_rfl)
    (case km_NotSides_InvalidOuter => first | k_is | kx_is | kernel_rfl)
    (case kr_NotSides => first | k_is | kx_is | kernel_rfl)
    (case km_NotRow_InvalidOuter => first | k_is | kx_is | kernel_rfl)
    (case km_InvalidNumber_InvalidOuter => first | k_is | kx_is | kernel_rfl)
    (case km_InvalidText_InvalidOuter => first | k_is | kx_is | kernel_rfl)
    (case km_TooGreat_InvalidInner => first | k_is | kx_is | kernel_rfl)
    (case ic_InvalidInner => first | k_is | kx_is | kernel_rfl)
    (case km_TooMany_InvalidInner => first | k_is | kx_is | kernel_rfl)
    (case km_Cannot_InvalidInner => first | k_is | kx_is | kernel_rfl)
    (case km_InvalidOuter_InvalidInner => first | k_is | kx_is | kernel_rfl)
    (case km_InvalidKinds_InvalidInner => first | k_is | kx_is | kernel_rfl)
    (case km_NotSides_InvalidInner => first | k_is | kx_is | kernel_rfl)
    (case km_NotRow_InvalidInner => first | k_is | kx_is | kernel_rfl)
    (case km_InvalidNumber_InvalidInner => first | k_is | kx_is | kernel_rfl)
    (case km_InvalidText_InvalidInner => first | k_is | kx_is | kernel_rfl)
    (case z_ValueError => first | k_is | kx_is | kernel_rfl)
    (case km_TooGreat_ValueError => first | k_is | kx_is | kernel_rfl)
    (case km_TooMany_ValueError => first | k_is | kx_is | kernel_rfl)
    (case km_Cannot_ValueError => first | k_is | kx_is | kernel_rfl)
    (case km_InvalidOuter_ValueError => first | k_is | kx_is | kernel_rfl)
    (case km_InvalidInner_ValueError => first | k_is | kx_is | kernel_rfl)
    (case km_InvalidKinds_ValueError => first | k_is | kx_is | kernel_rfl)
    (case km_NotSides_ValueError => first | k_is | kx_is | kernel_rfl)
    (case km_NotRow_ValueError => first | k_is | kx_is | kernel_rfl)
    (case km_InvalidNumber_ValueError => first | k_is | kx_is | kernel_rfl)
    (case km_InvalidText_ValueError => first | k_is | kx_is | kernel_rfl)
    (case sa1_near => first | k_is | kx_is | kernel_rfl)
    (case sa2_near => first | k_is | kx_is | kernel_rfl)
    (case sa3_near => first | k_is | kx_is | kernel_rfl)
    (case sa4_near => first | k_is | kx_is | kernel_rfl)
    (case sa5_near => first | k_is | kx_is | kernel_rfl)
    (case sa1_far => first | k_is | kx_is | kernel_rfl)
    (case sa2_far => first | k_is | kx_is | kernel_rfl)
    (case sa3_far => first | k_is | kx_is | kernel_rfl)
    (case sa4_far => first | k_is | kx_is | kernel_rfl)
    (case sa5_far => first | k_is | kx_is | kernel_rfl)
    (case me0_Sides___repr__ => first | k_is | kx_is | kernel_rfl)
    (case me1_Sides___repr__ => first | k_is | kx_is | kernel_rfl)
    (case sa1_shape => first | k_is | kx_is | kernel_rfl)
    (case sa2_shape => first | k_is | kx_is | kernel_rfl)
    (case sa3_shape => first | k_is | kx_is | kernel_rfl)
    (case sa4_shape => first | k_is | kx_is | kernel_rfl)
    (case sa5_shape => first | k_is | kx_is | kernel_rfl)
    (case me0_Row___repr__ => first | k_is | kx_is | kernel_rfl)
    (case me1_Row___repr__ => first | k_is | kx_is | kernel_rfl)
    (case z_repr => first | k_is | kx_is | kernel_rfl)
    (case z_enumerate => first | k_is | kx_is | kernel_rfl)
    (case c_MOST_KINDS => first | k_is | kx_is | kernel_rfl)
    (case c_MOST_DEGREE => first | k_is | kx_is | kernel_rfl)
    (case c_MOST_COUNT => first | k_is | kx_is | kernel_rfl)
    (case exi_InvalidInner => first | k_is | kx_is | kernel_rfl)
    (case exo_InvalidInner => first | k_is | kx_is | kernel_rfl)
    (case etk_InvalidInner => first | k_is | kx_is | kernel_rfl)
    (case eii_InvalidInner => first | k_is | kx_is | kernel_rfl)
    (case eti_InvalidInner => first | k_is | kx_is | kernel_rfl)
    (case ekc_InvalidInner => first | k_is | kx_is | kernel_rfl)
    (case efl_InvalidInner => first | k_is | kx_is | kernel_rfl)
    (case efc_InvalidInner => first | k_is | kx_is | kernel_rfl)
    (case exi_InvalidOuter => first | k_is | kx_is | kernel_rfl)
    (case exo_InvalidOuter => first | k_is | kx_is | kernel_rfl)
    (case etk_InvalidOuter => first | k_is | kx_is | kernel_rfl)
    (case eii_InvalidOuter => first | k_is | kx_is | kernel_rfl)
    (case eti_InvalidOuter => first | k_is | kx_is | kernel_rfl)
    (case ekc_InvalidOuter => first | k_is | kx_is | kernel_rfl)
    (case efl_InvalidOuter => first | k_is | kx_is | kernel_rfl)
    (case efc_InvalidOuter => first | k_is | kx_is | kernel_rfl)
    (case mk0_Sides => first | k_is | kx_is | kernel_rfl)
    (case mk1_Sides => first | k_is | kx_is | kernel_rfl)
    (case mk2_Sides => first | k_is | kx_is | kernel_rfl)
    (case mk3_Sides => first | k_is | kx_is | kernel_rfl)
    (case me0_Sides___eq__ => first | k_is | kx_is | kernel_rfl)
    (case me1_Sides___eq__ => first | k_is | kx_is | kernel_rfl)
    (case ne_Sides => first | k_is | kx_is | kernel_rfl)
    (case co_Sides => first | k_is | kx_is | kernel_rfl)
    (case me0_Row___eq__ => first | k_is | kx_is | kernel_rfl)
    (case me1_Row___eq__ => first | k_is | kx_is | kernel_rfl)
    (case ne_Row => first | k_is | kx_is | kernel_rfl)
    (case co_Row => first | k_is | kx_is | kernel_rfl)
    (case pr0_Sides_outer => first | k_is | kx_is | kernel_rfl)
    (case pr1_Sides_outer => first | k_is | kx_is | kernel_rfl)
    (case pr2_Sides_outer => first | k_is | kx_is | kernel_rfl)
    (case pr3_Sides_outer => first | k_is | kx_is | kernel_rfl)
    (case pr0_Sides_inner => first | k_is | kx_is | kernel_rfl)
    (case pr1_Sides_inner => first | k_is | kx_is | kernel_rfl)
    (case pr2_Sides_inner => first | k_is | kx_is | kernel_rfl)
    (case pr3_Sides_inner => first | k_is | kx_is | kernel_rfl)
    (case exi_InvalidKinds => first | k_is | kx_is | kernel_rfl)
    (case exo_InvalidKinds => first | k_is | kx_is | kernel_rfl)
    (case etk_InvalidKinds => first | k_is | kx_is | kernel_rfl)
    (case eii_InvalidKinds => first | k_is | kx_is | kernel_rfl)
    (case eti_InvalidKinds => first | k_is | kx_is | kernel_rfl)
    (case ekc_InvalidKinds => first | k_is | kx_is | kernel_rfl)
    (case efl_InvalidKinds => first | k_is | kx_is | kernel_rfl)
    (case efc_InvalidKinds => first | k_is | kx_is | kernel_rfl)
    (case mk0_Row => first | k_is | kx_is | kernel_rfl)
    (case mk1_Row => first | k_is | kx_is | kernel_rfl)
    (case mk2_Row => first | k_is | kx_is | kernel_rfl)
    (case mk3_Row => first | k_is | kx_is | kernel_rfl)
    (case exi_NotSides => first | k_is | kx_is | kernel_rfl)
    (case exo_NotSides => first | k_is | kx_is | kernel_rfl)
    (case etk_NotSides => first | k_is | kx_is | kernel_rfl)
    (case eii_NotSides => first | k_is | kx_is | kernel_rfl)
    (case eti_NotSides => first | k_is | kx_is | kernel_rfl)
    (case ekc_NotSides => first | k_is | kx_is | kernel_rfl)
    (case efl_NotSides => first | k_is | kx_is | kernel_rfl)
    (case efc_NotSides => first | k_is | kx_is | kernel_rfl)
    (case pr0_Row_kinds => first | k_is | kx_is | kernel_rfl)
    (case pr1_Row_kinds => first | k_is | kx_is | kernel_rfl)
    (case pr2_Row_kinds => first | k_is | kx_is | kernel_rfl)
    (case pr3_Row_kinds => first | k_is | kx_is | kernel_rfl)
    (case z_abs => first | k_is | kx_is | kernel_rfl)
    (case z_divmod => first | k_is | kx_is | kernel_rfl)
    (case km_Row_tuple => first | k_is | kx_is | kernel_rfl)
    (case ca_Row => first | k_is | kx_is | kernel_rfl)
    (case km_Sides_tuple => first | k_is | kx_is | kernel_rfl)
    (case ca_Sides => first | k_is | kx_is | kernel_rfl)
    (case km_Row_bool => first | k_is | kx_is | kernel_rfl)
    (case km_Sides_bool => first | k_is | kx_is | kernel_rfl)
    (case km_Row_int => first | k_is | kx_is | kernel_rfl)
    (case km_Sides_int => first | k_is | kx_is | kernel_rfl)
    (case ty_Sides => first | k_is | kx_is | kernel_rfl)
    (case kr_Row => first | k_is | kx_is | kernel_rfl)
    (case km_Row_Sides => first | k_is | kx_is | kernel_rfl)
    (case ty_Row => first | k_is | kx_is | kernel_rfl)
    (case kr_Sides => first | k_is | kx_is | kernel_rfl)
    (case km_Sides_Row => first | k_is | kx_is | kernel_rfl)
    (case fl__law_draw => first | k_is | kx_is | kernel_rfl)
    (case fc__law_draw => first | k_is | kx_is | kernel_rfl)
    (case fk__law_draw => first | k_is | kx_is | kernel_rfl)
    (case fl__law_pick => first | k_is | kx_is | kernel_rfl)
    (case fc__law_pick => first | k_is | kx_is | kernel_rfl)
    (case fk__law_pick => first | k_is | kx_is | kernel_rfl)
    (case fl__law_great => first | k_is | kx_is | kernel_rfl)
    (case fc__law_great => first | k_is | kx_is | kernel_rfl)
    (case fk__law_great => first | k_is | kx_is | kernel_rfl)
    (case fl__law_some => first | k_is | kx_is | kernel_rfl)
    (case fc__law_some => first | k_is | kx_is | kernel_rfl)
    (case fk__law_some => first | k_is | kx_is | kernel_rfl)
    (case fl__law_is_lot => first | k_is | kx_is | kernel_rfl)
    (case fc__law_is_lot => first | k_is | kx_is | kernel_rfl)
    (case fk__law_is_lot => first | k_is | kx_is | kernel_rfl)
    (case fl__law_wrong => first | k_is | kx_is | kernel_rfl)
    (case fc__law_wrong => first | k_is | kx_is | kernel_rfl)
    (case fk__law_wrong => first | k_is | kx_is | kernel_rfl)
    (case fl_Sides___repr__ => first | k_is | kx_is | kernel_rfl)
    (case fc_Sides___repr__ => first | k_is | kx_is | kernel_rfl)
    (case fk_Sides___repr__ => first | k_is | kx_is | kernel_rfl)
    (case fl_Row___repr__ => first | k_is | kx_is | kernel_rfl)
    (case fc_Row___repr__ => first | k_is | kx_is | kernel_rfl)
    (case fk_Row___repr__ => first | k_is | kx_is | kernel_rfl)
    (case fl__law_caught => first | k_is | kx_is | kernel_rfl)
    (case fc__law_caught => first | k_is | kx_is | kernel_rfl)
    (case fk__law_caught => first | k_is | kx_is | kernel_rfl)
    (case fl_is_integer => first | k_is | kx_is | kernel_rfl)
    (case fc_is_integer => first | k_is | kx_is | kernel_rfl)
    (case fk_is_integer => first | k_is | kx_is | kernel_rfl)
    (case fl_is_count => first | k_is | kx_is | kernel_rfl)
    (case fc_is_count => first | k_is | kx_is | kernel_rfl)
    (case fk_is_count => first | k_is | kx_is | kernel_rfl)
    (case fl_is_kind => first | k_is | kx_is | kernel_rfl)
    (case fc_is_kind => first | k_is | kx_is | kernel_rfl)
    (case fk_is_kind => first | k_is | kx_is | kernel_rfl)
    (case fl_wrong_kind => first | k_is | kx_is | kernel_rfl)
    (case fc_wrong_kind => first | k_is | kx_is | kernel_rfl)
    (case fk_wrong_kind => first | k_is | kx_is | kernel_rfl)
    (case fl_Sides___init__ => first | k_is | kx_is | kernel_rfl)
    (case fc_Sides___init__ => first | k_is | kx_is | kernel_rfl)
    (case fk_Sides___init__ => first | k_is | kx_is | kernel_rfl)
    (case fl_Sides___eq__ => first | k_is | kx_is | kernel_rfl)
    (case fc_Sides___eq__ => first | k_is | kx_is | kernel_rfl)
    (case fk_Sides___eq__ => first | k_is | kx_is | kernel_rfl)
    (case fl_Row___eq__ => first | k_is | kx_is | kernel_rfl)
    (case fc_Row___eq__ => first | k_is | kx_is | kernel_rfl)
    (case fk_Row___eq__ => first | k_is | kx_is | kernel_rfl)
    (case fl_Sides_outer => first | k_is | kx_is | kernel_rfl)
    (case fc_Sides_outer => first | k_is | kx_is | kernel_rfl)
    (case fk_Sides_outer => first | k_is | kx_is | kernel_rfl)
    (case fl_Sides_inner => first | k_is | kx_is | kernel_rfl)
    (case fc_Sides_inner => first | k_is | kx_is | kernel_rfl)
    (case fk_Sides_inner => first | k_is | kx_is | kernel_rfl)
    (case fl_Row___init__ => first | k_is | kx_is | kernel_rfl)
    (case fc_Row___init__ => first | k_is | kx_is | kernel_rfl)
    (case fk_Row___init__ => first | k_is | kx_is | kernel_rfl)
    (case fl_check_sides => first | k_is | kx_is | kernel_rfl)
    (case fc_check_sides => first | k_is | kx_is | kernel_rfl)
    (case fk_check_sides => first | k_is | kx_is | kernel_rfl)
    (case fl_can_face => first | k_is | kx_is | kernel_rfl)
    (case fc_can_face => first | k_is | kx_is | kernel_rfl)
    (case fk_can_face => first | k_is | kx_is | kernel_rfl)
    (case fl_sides_can_be => first | k_is | kx_is | kernel_rfl)
    (case fc_sides_can_be => first | k_is | kx_is | kernel_rfl)
    (case fk_sides_can_be => first | k_is | kx_is | kernel_rfl)
    (case fl_is_single => first | k_is | kx_is | kernel_rfl)
    (case fc_is_single => first | k_is | kx_is | kernel_rfl)
    (case fk_is_single => first | k_is | kx_is | kernel_rfl)
    (case fl_set_around => first | k_is | kx_is | kernel_rfl)
    (case fc_set_around => first | k_is | kx_is | kernel_rfl)
    (case fk_set_around => first | k_is | kx_is | kernel_rfl)
    (case fl_sides_one => first | k_is | kx_is | kernel_rfl)
    (case fc_sides_one => first | k_is | kx_is | kernel_rfl)
    (case fk_sides_one => first | k_is | kx_is | kernel_rfl)
    (case fl_check_facing => first | k_is | kx_is | kernel_rfl)
    (case fc_check_facing => first | k_is | kx_is | kernel_rfl)
    (case fk_check_facing => first | k_is | kx_is | kernel_rfl)
    (case fl_fitting_row => first | k_is | kx_is | kernel_rfl)
    (case fc_fitting_row => first | k_is | kx_is | kernel_rfl)
    (case fk_fitting_row => first | k_is | kx_is | kernel_rfl)
    (case fl_alone_row => first | k_is | kx_is | kernel_rfl)
    (case fc_alone_row => first | k_is | kx_is | kernel_rfl)
    (case fk_alone_row => first | k_is | kx_is | kernel_rfl)
    (case fl_check_row => first | k_is | kx_is | kernel_rfl)
    (case fc_check_row => first | k_is | kx_is | kernel_rfl)
    (case fk_check_row => first | k_is | kx_is | kernel_rfl)
    (case fl_check_can => first | k_is | kx_is | kernel_rfl)
    (case fc_check_can => first | k_is | kx_is | kernel_rfl)
    (case fk_check_can => first | k_is | kx_is | kernel_rfl)
    (case fl_Row_kinds => first | k_is | kx_is | kernel_rfl)
    (case fc_Row_kinds => first | k_is | kx_is | kernel_rfl)
    (case fk_Row_kinds => first | k_is | kx_is | kernel_rfl)
    (case fl_around => first | k_is | kx_is | kernel_rfl)
    (case fc_around => first | k_is | kx_is | kernel_rfl)
    (case fk_around => first | k_is | kx_is | kernel_rfl)
    (case fl__law_right => first | k_is | kx_is | kernel_rfl)
    (case fc__law_right => first | k_is | kx_is | kernel_rfl)
    (case hv__law_right => first | k_is | kx_is | kernel_rfl)
    (case hl__law_right => rfl)
    (case fk__law_right => first | k_is | kx_is | kernel_rfl)
    (case fl__law_well => first | k_is | kx_is | kernel_rfl)
    (case fc__law_well => first | k_is | kx_is | kernel_rfl)
    (case fk__law_well => first | k_is | kx_is | kernel_rfl)
    (case fl_law => first | k_is | kx_is | kernel_rfl)
    (case fc_law => first | k_is | kx_is | kernel_rfl)
    (case fk_law => first | k_is | kx_is | kernel_rfl)
    (case eii_InvalidText => first | k_is | kx_is | kernel_rfl)
    (case eii_InvalidNumber => first | k_is | kx_is | kernel_rfl)
    (case eii_NotRow => first | k_is | kx_is | kernel_rfl)
    (case eii_Cannot => first | k_is | kx_is | kernel_rfl)
    (case eii_TooMany => first | k_is | kx_is | kernel_rfl)
    (case eii_TooGreat => first | k_is | kx_is | kernel_rfl)
  case hT => exact fun p => List.forall_mem_cons.mpr ⟨⟨by kernel_rfl, by first | k_is | kernel_rfl⟩, fun _ h => nomatch h⟩
  case hY => exact List.forall_mem_cons.mpr ⟨by first | decide | simp, fun _ h => nomatch h⟩
